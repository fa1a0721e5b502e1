/- A part of the proof that the law FnExactChanIn holds for every input: the words, functions and walks that its row needs, without a condition of their own. -/
import Derived.Test.YthbcnakmnbilhaaProg
import Derived.Laws.StructEq
import Derived.Test.YthbcnakmnbilhaaZFnExactChanIna0
import Derived.Test.YthbcnakmnbilhaaZFnExactChanIna1
import Derived.Test.YthbcnakmnbilhaaZFnExactChanIna2
import Derived.Test.YthbcnakmnbilhaaZFnExactChanIna3
import Derived.Test.YthbcnakmnbilhaaZFnExactChanIna4
import Derived.Test.YthbcnakmnbilhaaZFnExactChanIna6
import Derived.Test.YthbcnakmnbilhaaZFnExactChanIna7
import Derived.Test.YthbcnakmnbilhaaZFnExactChanIns
namespace Go.Proofs.Ythbcnakmnbilhaa.PFnExactChanIn
open Go.RowKit Go.Proofs.YthbcnakmnbilhaaW.PrintWords Go.Proofs.YthbcnakmnbilhaaW.PrintLast Go.Proofs.YthbcnakmnbilhaaW.PrintMore
attribute [local go_sem] max2_int min2_int max_two min_two max_three min_three max_four min_four   -- for this text's walks alone
set_option linter.unusedVariables false
set_option linter.unusedSimpArgs false
def IsS24 (w0 W : World) (g : Nat) (f0 : List (List (S43))) : Prop := ∃ A0 c0, W.heap[g]? = some (.cells #[.slice A0 f0.length c0] 24 (0, 0)) ∧ w0.heap.size ≤ g ∧ Kd.C (Kd.slice 43 k43) w0 A0 f0.length f0
theorem IsS24.grown {w0 W : World} {g : Nat} {f0 : List (List (S43))} {W1 : World} {row : Option Nat} (h : IsS24 w0 W g f0) (hw : W.grownBy W1 row) (hne : some g ≠ row) : IsS24 w0 W1 g f0 := by
 obtain ⟨A0, c0, hb, hg, hr0⟩ := h
 exact ⟨A0, c0, blk_grown hb hw hne, hg, hr0⟩
theorem IsS24.kept {w0 W : World} {g : Nat} {f0 : List (List (S43))} {W1 : World} {S : Nat → Prop} (h : IsS24 w0 W g f0) (hk : Kept W W1 S) (hne : ¬ S g) : IsS24 w0 W1 g f0 := by
 obtain ⟨A0, c0, hb, hg, hr0⟩ := h
 exact ⟨A0, c0, blk_kept hb hk hne, hg, hr0⟩
theorem IsS24.below {w0 W : World} {g : Nat} {f0 : List (List (S43))} {W1 : World} (h : IsS24 w0 W g f0) (hw : Below W.heap.size W W1) : IsS24 w0 W1 g f0 := h.grown (grown_of_below hw none) (by simp)
theorem IsS24.alloc {w0 W : World} {g : Nat} {f0 : List (List (S43))} (h : IsS24 w0 W g f0) (o : Obj) : IsS24 w0 (W.alloc o) g f0 := h.below (below_alloc (Below.refl _ _) o)
theorem IsS24.drewN {w0 W : World} {g : Nat} {f0 : List (List (S43))} (h : IsS24 w0 W g f0) (m : Nat) : IsS24 w0 (W.drewN m) g f0 := h
theorem IsS24.drew {w0 W : World} {g : Nat} {f0 : List (List (S43))} (h : IsS24 w0 W g f0) : IsS24 w0 W.drew g f0 := h
theorem IsS24.at_ {w0 W : World} {g : Nat} {f0 : List (List (S43))} {w' : World} {m : Nat} (hq : W.drewN m = w') (h : IsS24 w0 W g f0) : IsS24 w0 w' g f0 := by subst hq; exact IsS24.drewN h m
theorem IsS24.apart {w0 W : World} {g : Nat} {f0 : List (List (S43))} {α : Type} {d : Kd α} {e : Nat} {base : Nat} {ok : Nat → Prop} {v : Value} {xs : List α} (h : IsS24 w0 W g f0) (ho : d.R e W base ok v xs) (ht : ∀ q, q ∈ e :: d.E → q ≠ 24) : d.R e W base (fun k => ok k ∧ k ≠ g) v xs := by
 obtain ⟨A0, c0, hb, hg, hr0⟩ := h
 exact Kd.R_types ho hb ht
theorem IsS24.own_ne {w0 W : World} {g : Nat} {f0 : List (List (S43))} {α : Type} {d : Kd α} {e : Nat} {base : Nat} {ok : Nat → Prop} {v : Value} {xs : List α} (h : IsS24 w0 W g f0) (ho : d.R e W base ok v xs) (ht : e ≠ 24) : some g ≠ v.ownBlock := by
 obtain ⟨A0, c0, hb, hg, hr0⟩ := h
 exact Kd.R_ne ho hb ht
theorem IsS24.lt {w0 W : World} {g : Nat} {f0 : List (List (S43))} (h : IsS24 w0 W g f0) : g < W.heap.size := by
 obtain ⟨A0, c0, hb, hg, hr0⟩ := h
 exact blk_lt hb
theorem IsS24.ge {w0 W : World} {g : Nat} {f0 : List (List (S43))} (h : IsS24 w0 W g f0) : w0.heap.size ≤ g := by
 obtain ⟨A0, c0, hb, hg, hr0⟩ := h
 exact hg
theorem IsS24.far {w0 W : World} {g : Nat} {f0 : List (List (S43))} {p : Addr} (h : IsS24 w0 W g f0) (hne : g ≠ p.block) (u : Value) : IsS24 w0 (W.setCell p u) g f0 := by
 obtain ⟨A0, c0, hb, hg, hr0⟩ := h
 exact ⟨A0, c0, blk_far hb hne u, hg, hr0⟩
theorem cellS24_0 {W : World} {g : Nat} {A0 : Option Addr} {c0 : Nat} {f0 : List (List (S43))} (h : W.heap[g]? = some (.cells #[.slice A0 f0.length c0] 24 (0, 0))) : W.cell? ⟨g, 0, none⟩ = some (.slice A0 f0.length c0) := (blk_cell h 0).trans rfl
theorem IsS24.new (w0 W : World) (A0 : Option Addr) (c0 : Nat) (f0 : List (List (S43))) (hB : Below w0.heap.size w0 W) (hr0 : Kd.C (Kd.slice 43 k43) w0 A0 f0.length f0) : IsS24 w0 (W.alloc (.cells #[.slice A0 f0.length c0] 24)) W.heap.size f0 := ⟨A0, c0, by simpa using heap_alloc_new W _, hB.size, hr0⟩
theorem gI24_ {w0 W W1 : World} {g : Nat} {f0 : List (List (S43))} {f0' : List (List (S43))} (h : IsS24 w0 W g f0) (hr : IsS24 w0 W g f0 → IsS24 w0 W1 g f0' := by (intro h_; repeat (first | (with_reducible first | exact h_ | apply IsS24.alloc | apply IsS24.drewN | apply IsS24.drew | refine IsS24.far ?_ (Aside0.out (by assumption)) _) | exact h_))) : IsS24 w0 W1 g f0' := hr h
def impl_Memory_last.f (s0_0 : List (List (S43))) (a1 : Int) : Option (Int) := if 0 ≤ a1 then (if a1 < (s0_0.length : Int) then (if 0 ≤ (wrap64 (((rd_L3 s0_0 a1).length : Int) - 1)) then (if (wrap64 (((rd_L3 s0_0 a1).length : Int) - 1)) < ((rd_L3 s0_0 a1).length : Int) then (some ((rd_T43 (rd_L3 s0_0 a1) (wrap64 (((rd_L3 s0_0 a1).length : Int) - 1))).f0)) else (none)) else (none)) else (none)) else (none)
set_option maxHeartbeats 8000000 in
set_option maxRecDepth 100000 in
theorem impl_Memory_last.calls (g : Nat) (s0_0 : List (List (S43))) (a1 : Int) (r : Int) (w0 w : World) (hI : IsS24 w0 w g s0_0) (hB : Below w0.heap.size w0 w) (h : impl_Memory_last.f s0_0 a1 = some r) :
  Calls Try.prog 111 #[.pointer (some ⟨g, 0, none⟩), .int .i64 a1] w fun e w' => e = .returned (.int .i64 r) ∧ IsS24 w0 w' g s0_0 ∧ Below w0.heap.size w0 w' ∧ KeepBut w w' g none := by
 have HI0 := aM_ hI
 have HK := aM_ (KeepBut.refl w g none)
 have HL := aM_ hB.size
 clear hI
 have HW0 := aM_ hB.size
 have HB := aM_ hB
 clear hB
 have H : (if 0 ≤ a1 then (if a1 < (s0_0.length : Int) then (if 0 ≤ (wrap64 (((rd_L3 s0_0 a1).length : Int) - 1)) then (if (wrap64 (((rd_L3 s0_0 a1).length : Int) - 1)) < ((rd_L3 s0_0 a1).length : Int) then (some ((rd_T43 (rd_L3 s0_0 a1) (wrap64 (((rd_L3 s0_0 a1).length : Int) - 1))).f0)) else (none)) else (none)) else (none)) else (none)) = some r := h
 clear h
 by_cases c3 : 0 ≤ a1
 ·rw [if_pos c3] at H
  have c3b0 : decide (0 ≤ a1) = true := decide_eq_true c3
  clear c3
  by_cases c4 : a1 < (s0_0.length : Int)
  ·rw [if_pos c4] at H
   have c4b0 : decide (a1 < (s0_0.length : Int)) = true := decide_eq_true c4
   clear c4
   obtain ⟨ji5, hji5⟩ : ∃ j_ : Int, (wrap64 (((rd_L3 s0_0 a1).length : Int) - 1)) = j_ := ⟨_, rfl⟩
   replace H : (if 0 ≤ (ji5) then (if (ji5) < ((rd_L3 s0_0 a1).length : Int) then (some ((rd_T43 (rd_L3 s0_0 a1) (ji5)).f0)) else (none)) else (none)) = some r := by first | (rw [hji5] at H; exact H) | (simp only [hji5] at H ⊢; exact H)
   have hji5w : (IntKind.i64.wrap (((rd_L3 s0_0 a1).length : Int) - 1)) = ji5 := (i64_w _).trans hji5
   by_cases c6 : 0 ≤ (ji5)
   ·rw [if_pos c6] at H
    have c6b0 : decide (0 ≤ (ji5)) = true := decide_eq_true c6
    clear c6
    by_cases c7 : (ji5) < ((rd_L3 s0_0 a1).length : Int)
    ·rw [if_pos c7] at H
     have c7b0 : decide ((ji5) < ((rd_L3 s0_0 a1).length : Int)) = true := decide_eq_true c7
     clear c7
     obtain rfl := Option.some.inj H
     obtain ⟨ASz8_0, cSz8_0, HGz8, hgz8, HSz8_0⟩ := HI0.out
     have hcz8_0 := cellS24_0 HGz8
     clear HGz8 hgz8
     have p215 : 0 ≤ (a1 : Int) := of_decide_eq_true (by first | (with_reducible assumption) | assumption)
     have q215 : a1 < (s0_0.length : Int) := of_decide_eq_true (by first | (with_reducible assumption) | assumption)
     obtain ⟨ad215, A215_0, c215_0, e215, hx215_0, hl215_0, hi215_0⟩ := at_L3 HSz8_0 a1 p215 q215
     cases e215
     replace hx215_0 := pw_cell_below HB.out hx215_0
     have HR215_0 := aM_ hi215_0
     have HC215_0 := aM_ hl215_0
     clear hi215_0 hl215_0
     replace p215 := eq_true p215
     replace q215 := eq_true q215
     have p216 : 0 ≤ ((ji5) : Int) := of_decide_eq_true (by first | (with_reducible assumption) | assumption)
     have q216 : (ji5) < ((rd_L3 s0_0 a1).length : Int) := of_decide_eq_true (by first | (with_reducible assumption) | assumption)
     obtain ⟨ad216, A216_1, c216_1, e216, hx216_0, hx216_1, hl216_1, hi216_1⟩ := at_T43 HR215_0.out (ji5) p216 q216
     cases e216
     replace hx216_0 := pw_cell_below HB.out hx216_0
     replace hx216_1 := pw_cell_below HB.out hx216_1
     have HR216_1 := aM_ hi216_1
     have HC216_1 := aM_ hl216_1
     clear hi216_1 hl216_1
     replace p216 := eq_true p216
     replace q216 := eq_true q216
     go_enter Try.func111, Try.ntmps111
     go_wp2
     go_ret
     exact ⟨by first | rfl | (simp [errW_none, errW_some] <;> rfl) | (simp only [← hji5]; first | rfl | (simp [errW_none, errW_some] <;> rfl)) | (simp [*, errW_none, errW_some] <;> rfl), gI24_ HI0.out, gB24_ HB.out, gK_ HK.out⟩
    ·rw [if_neg c7] at H
     exact absurd H (by simp)
   ·rw [if_neg c6] at H
    exact absurd H (by simp)
  ·rw [if_neg c4] at H
   exact absurd H (by simp)
 ·rw [if_neg c3] at H
  exact absurd H (by simp)
mutual
def impl_Memory_channel.j0 : Nat → Int → Int → Int → Int → Int → Bool → List (List (S43)) → Option (Int × List Int × Bool × Bool)
  | 0, _, _, _, _, _, _, _ => none
  | k + 1, x1, x2, x8, x9, x10, x40, x1000 => if x40 = true then (some (0, ([] : List Int), false, false)) else (impl_Memory_channel.l0 k x1 x2 x8 x9 0 x1000 x2 ([] : List Int) (x10 == 1))
def impl_Memory_channel.l0 : Nat → Int → Int → Int → Int → Int → List (List (S43)) → Int → List Int → Bool → Option (Int × List Int × Bool × Bool)
  | 0, _, _, _, _, _, _, _, _, _ => none
  | k + 1, x1, x2, x8, x46, x47, x1000, x225000, x225001, x225002 => if x47 < x46 then (if x2 = 0 then (none) else ((impl_Memory_last.f x1000 (wrap64 ((wrap64 (x1 + 4)) + (Int.tmod (wrap64 (x8 + x47)) x2)))).bind fun t225 => (if x225001.length < 17592186044416 then (impl_Memory_channel.l0 k x1 x2 x8 x46 (wrap64 (x47 + 1)) x1000 x225000 (x225001 ++ [t225]) x225002) else (none)))) else (some (x225000, x225001, x225002, true))
end
def impl_Memory_channel.f (k : Nat) (s0_0 : List (List (S43))) (a1 : Int) (a2 : Int) : Option (Int × List Int × Bool × Bool) := (impl_Memory_last.f s0_0 (wrap64 (a1 + 1))).bind fun t218 => ((impl_Memory_last.f s0_0 (wrap64 (a1 + 2))).bind fun t219 => ((impl_Memory_last.f s0_0 (wrap64 (a1 + 3))).bind fun t220 => ((impl_within.f t218 0 (wrap64 (a2 - 1))).bind fun t221 => (if t221 = true then ((impl_within.f t219 0 a2).bind fun t222 => (if t222 = true then ((impl_within.f t220 0 1).bind fun t223 => (impl_Memory_channel.j0 k a1 a2 t218 t219 t220 (!t223) s0_0)) else (impl_Memory_channel.j0 k a1 a2 t218 t219 t220 true s0_0))) else (impl_Memory_channel.j0 k a1 a2 t218 t219 t220 true s0_0)))))
def impl_Memory_channel.T8 : Bool × List (List Nat × List Nat) := (true, [([], []), ([0], [0]), ([], []), ([], []), ([3], [3]), ([], []), ([], []), ([5, 6], [5, 6]), ([], []), ([7, 8], [7, 8]), ([4, 9], [4, 9]), ([2, 10], [2, 10]), ([11], [11]), ([1, 12, 11], [1, 12]), ([0, 1, 2, 3, 4, 5, 6, 7, 8, 9, 10, 11, 12, 13], []), ([14, 13, 13, 0, 1, 2, 3, 4, 5, 6, 7, 8, 9, 10, 11, 12, 13], [13, 14])])
def impl_Memory_channel.B8 : List Nat := [0, 1, 0, 0, 8, 0, 0, 96, 0, 480, 1016, 2044, 4092, 8191, 16383, 32767]
theorem impl_Memory_channel.tab8 : rtab .any (opsOf Try.f90 8) = impl_Memory_channel.T8 := by kernel_rfl
theorem impl_Memory_channel.bits8 : waitsOk impl_Memory_channel.T8.2 impl_Memory_channel.B8 = true := by kernel_rfl
set_option maxHeartbeats 8000000 in
set_option maxRecDepth 100000 in
theorem impl_Memory_channel.calls (k : Nat) (g : Nat) (s0_0 : List (List (S43))) (a1 : Int) (a2 : Int) (r1 : Int) (r2 : List Int) (r3 : Bool) (r4 : Bool) (w0 w : World) (hI : IsS24 w0 w g s0_0) (hB : Below w0.heap.size w0 w) (h : impl_Memory_channel.f k s0_0 a1 a2 = some (r1, r2, r3, r4)) :
  Calls Try.prog 90 #[.pointer (some ⟨g, 0, none⟩), .int .i64 a1, .int .i64 a2] w fun e w' => ∃ v1_ : Value, e = .returned (.tuple #[.agg #[.int .i64 r1, v1_, .bool r3], .bool r4]) ∧ Kd.R (Kd.int .i64) 3 w' w.heap.size (fun _ => True) v1_ r2 ∧ IsS24 w0 w' g s0_0 ∧ Below w0.heap.size w0 w' ∧ KeepBut w w' g none := by
 have hu74 := Try.underlying74
 have HI0 := aM_ hI
 have HK := aM_ (KeepBut.refl w g none)
 have HL := aM_ hB.size
 clear hI
 have HW0 := aM_ hB.size
 have HB := aM_ hB
 clear hB
 have H : ((impl_Memory_last.f s0_0 (wrap64 (a1 + 1))).bind fun t218 => ((impl_Memory_last.f s0_0 (wrap64 (a1 + 2))).bind fun t219 => ((impl_Memory_last.f s0_0 (wrap64 (a1 + 3))).bind fun t220 => ((impl_within.f t218 0 (wrap64 (a2 - 1))).bind fun t221 => (if t221 = true then ((impl_within.f t219 0 a2).bind fun t222 => (if t222 = true then ((impl_within.f t220 0 1).bind fun t223 => (impl_Memory_channel.j0 k a1 a2 t218 t219 t220 (!t223) s0_0)) else (impl_Memory_channel.j0 k a1 a2 t218 t219 t220 true s0_0))) else (impl_Memory_channel.j0 k a1 a2 t218 t219 t220 true s0_0)))))) = some (r1, r2, r3, r4) := h
 clear h
 replace H := Option.bind_eq_some_iff.mp H
 obtain ⟨t218, A40, H⟩ := H
 replace H : ((impl_Memory_last.f s0_0 (wrap64 (a1 + 2))).bind fun t219 => ((impl_Memory_last.f s0_0 (wrap64 (a1 + 3))).bind fun t220 => ((impl_within.f t218 0 (wrap64 (a2 - 1))).bind fun t221 => (if t221 = true then ((impl_within.f t219 0 a2).bind fun t222 => (if t222 = true then ((impl_within.f t220 0 1).bind fun t223 => (impl_Memory_channel.j0 k a1 a2 t218 t219 t220 (!t223) s0_0)) else (impl_Memory_channel.j0 k a1 a2 t218 t219 t220 true s0_0))) else (impl_Memory_channel.j0 k a1 a2 t218 t219 t220 true s0_0))))) = some (r1, r2, r3, r4) := H
 have A4 := aM_ A40
 clear A40
 replace H := Option.bind_eq_some_iff.mp H
 obtain ⟨t219, A50, H⟩ := H
 replace H : ((impl_Memory_last.f s0_0 (wrap64 (a1 + 3))).bind fun t220 => ((impl_within.f t218 0 (wrap64 (a2 - 1))).bind fun t221 => (if t221 = true then ((impl_within.f t219 0 a2).bind fun t222 => (if t222 = true then ((impl_within.f t220 0 1).bind fun t223 => (impl_Memory_channel.j0 k a1 a2 t218 t219 t220 (!t223) s0_0)) else (impl_Memory_channel.j0 k a1 a2 t218 t219 t220 true s0_0))) else (impl_Memory_channel.j0 k a1 a2 t218 t219 t220 true s0_0)))) = some (r1, r2, r3, r4) := H
 have A5 := aM_ A50
 clear A50
 replace H := Option.bind_eq_some_iff.mp H
 obtain ⟨t220, A60, H⟩ := H
 replace H : ((impl_within.f t218 0 (wrap64 (a2 - 1))).bind fun t221 => (if t221 = true then ((impl_within.f t219 0 a2).bind fun t222 => (if t222 = true then ((impl_within.f t220 0 1).bind fun t223 => (impl_Memory_channel.j0 k a1 a2 t218 t219 t220 (!t223) s0_0)) else (impl_Memory_channel.j0 k a1 a2 t218 t219 t220 true s0_0))) else (impl_Memory_channel.j0 k a1 a2 t218 t219 t220 true s0_0))) = some (r1, r2, r3, r4) := H
 have A6 := aM_ A60
 clear A60
 have HC7 := aM_ H
 clear H
 go_enter Try.func90, Try.ntmps90
 go_upto_region 2 with (first | ((with_reducible refine gate_dst (N := 6) rfl ?_); refine bX_ 6 (cs := #[.int .i64 0, .slice none 0 0, .bool false]) (t := 74) ?_; intro gb217 hg w8 hbox hb; have n0 := aM_ (IsS24.below (gI24_ HI0.out) hb); have n1 := aM_ (KeepBut.trans (gK_ HK.out) (KeepBut.of_below hb g none) (.inl rfl)); have n2 := aM_ (below_step (gB24_ HB.out) hb); have n3 := aM_ (hbox); have n4 := aM_ ((by rw [hg]; exact (keep_size (w := w) (g := g) (row := none) (gK_ HK.out)) : w.heap.size ≤ gb217)); have n5 := aM_ ((Nat.le_trans HW0.out (by rw [hg]; exact (keep_size (w := w) (g := g) (row := none) (gK_ HK.out)) : w.heap.size ≤ gb217) : w0.heap.size ≤ gb217)); have n6 := aM_ ((by rw [hg]; exact Nat.ne_of_lt (IsS24.lt (show IsS24 w0 _ g s0_0 from gI24_ HI0.out)) : g ≠ gb217)); have n7 := aM_ ((by rw [hg]; exact Nat.ne_of_gt (IsS24.lt (show IsS24 w0 _ g s0_0 from gI24_ HI0.out)) : gb217 ≠ g)); clear HI0; clear HK; clear HB; have HI0 := n0; have HK := n1; have HB := n2; have BK217 := n3; have GW217 := n4; have GE217 := n5; have NB0_217 := n6; have NB217_0 := n7; clear n0 n1 n2 n3 n4 n5 n6 n7; clear hb hbox hg) | ((with_reducible refine gate_callee (f := 111) rfl ?_); refine gL_ (some 16) Try.func111 #[.pointer (some ⟨g, 0, none⟩), .int .i64 (wrap64 (a1 + 1))] ?_; (with_reducible refine (impl_Memory_last.calls g s0_0 (wrap64 (a1 + 1)) t218 w0 _ ?side1 ?side2 A4.out).mono ?_); (case side1 => exact gI24_ HI0.out); (case side2 => exact gB24_ HB.out); rintro e w9 ⟨rfl, hi, hb, hk⟩; refine ⟨_, rfl, ?_⟩; have n0 := aM_ (KeepBut.blk hk (g' := gb217) (o := .cells #[.int .i64 0, .slice none 0 0, .bool false] 74 (0, 0)) (by (with_reducible repeat (first | refine bN_ ?_ _ | refine bD_ ?_ | refine bA_ ?_ _)); exact BK217.out) NB217_0.out (by simp)); have n1 := aM_ (KeepBut.trans (gK_ HK.out) hk (.inl rfl)); have n2 := aM_ (hb); have n3 := aM_ (hi); clear BK217; clear HK; clear HB; clear HI0; have BK217 := n0; have HK := n1; have HB := n2; have HI0 := n3; clear n0 n1 n2 n3) | ((with_reducible refine gate_callee (f := 111) rfl ?_); refine gL_ (some 20) Try.func111 #[.pointer (some ⟨g, 0, none⟩), .int .i64 (wrap64 (a1 + 2))] ?_; (with_reducible refine (impl_Memory_last.calls g s0_0 (wrap64 (a1 + 2)) t219 w0 _ ?side1 ?side2 A5.out).mono ?_); (case side1 => exact gI24_ HI0.out); (case side2 => exact gB24_ HB.out); rintro e w10 ⟨rfl, hi, hb, hk⟩; refine ⟨_, rfl, ?_⟩; have n0 := aM_ (KeepBut.blk hk (g' := gb217) (o := .cells #[.int .i64 0, .slice none 0 0, .bool false] 74 (0, 0)) (by (with_reducible repeat (first | refine bN_ ?_ _ | refine bD_ ?_ | refine bA_ ?_ _)); exact BK217.out) NB217_0.out (by simp)); have n1 := aM_ (KeepBut.trans (gK_ HK.out) hk (.inl rfl)); have n2 := aM_ (hb); have n3 := aM_ (hi); clear BK217; clear HK; clear HB; clear HI0; have BK217 := n0; have HK := n1; have HB := n2; have HI0 := n3; clear n0 n1 n2 n3) | ((with_reducible refine gate_callee (f := 111) rfl ?_); refine gL_ (some 24) Try.func111 #[.pointer (some ⟨g, 0, none⟩), .int .i64 (wrap64 (a1 + 3))] ?_; (with_reducible refine (impl_Memory_last.calls g s0_0 (wrap64 (a1 + 3)) t220 w0 _ ?side1 ?side2 A6.out).mono ?_); (case side1 => exact gI24_ HI0.out); (case side2 => exact gB24_ HB.out); rintro e w11 ⟨rfl, hi, hb, hk⟩; refine ⟨_, rfl, ?_⟩; have n0 := aM_ (KeepBut.blk hk (g' := gb217) (o := .cells #[.int .i64 0, .slice none 0 0, .bool false] 74 (0, 0)) (by (with_reducible repeat (first | refine bN_ ?_ _ | refine bD_ ?_ | refine bA_ ?_ _)); exact BK217.out) NB217_0.out (by simp)); have n1 := aM_ (KeepBut.trans (gK_ HK.out) hk (.inl rfl)); have n2 := aM_ (hb); have n3 := aM_ (hi); clear BK217; clear HK; clear HB; clear HI0; have BK217 := n0; have HK := n1; have HB := n2; have HI0 := n3; clear n0 n1 n2 n3))
 (try simp only [Act.put, List.setIfInBounds_toArray, List.set_cons_zero, List.set_cons_succ])
 go_cut [40] (fun v40 wc => ∃ (kq : Nat) (x40_6 : Bool), v40 = .bool x40_6 ∧ Aside0 (impl_Memory_channel.j0 kq a1 a2 t218 t219 t220 x40_6 s0_0 = some (r1, r2, r3, r4)) ∧ Aside0 (kq ≤ k) ∧ Aside0 (wc.heap[gb217]? = some (.cells #[.int .i64 0, (.slice none 0 0), .bool false] 74 (0, 0))) ∧ Aside0 (IsS24 w0 wc g s0_0) ∧ Aside0 (KeepBut w wc g none) ∧ Aside0 (Below w0.heap.size w0 wc))
 case first =>
  have H := HC7.out
  clear HC7
  replace H := Option.bind_eq_some_iff.mp H
  obtain ⟨t221, A120, H⟩ := H
  replace H : (if t221 = true then ((impl_within.f t219 0 a2).bind fun t222 => (if t222 = true then ((impl_within.f t220 0 1).bind fun t223 => (impl_Memory_channel.j0 k a1 a2 t218 t219 t220 (!t223) s0_0)) else (impl_Memory_channel.j0 k a1 a2 t218 t219 t220 true s0_0))) else (impl_Memory_channel.j0 k a1 a2 t218 t219 t220 true s0_0)) = some (r1, r2, r3, r4) := H
  have A12 := aM_ A120
  clear A120
  by_cases c13 : t221 = true
  ·subst c13
   have H1 : ((impl_within.f t219 0 a2).bind fun t222 => (if t222 = true then ((impl_within.f t220 0 1).bind fun t223 => (impl_Memory_channel.j0 k a1 a2 t218 t219 t220 (!t223) s0_0)) else (impl_Memory_channel.j0 k a1 a2 t218 t219 t220 true s0_0))) = some (r1, r2, r3, r4) := by rw [if_pos rfl] at H; exact H
   clear H
   have H := H1
   clear H1
   replace H := Option.bind_eq_some_iff.mp H
   obtain ⟨t222, A140, H⟩ := H
   replace H : (if t222 = true then ((impl_within.f t220 0 1).bind fun t223 => (impl_Memory_channel.j0 k a1 a2 t218 t219 t220 (!t223) s0_0)) else (impl_Memory_channel.j0 k a1 a2 t218 t219 t220 true s0_0)) = some (r1, r2, r3, r4) := H
   have A14 := aM_ A140
   clear A140
   by_cases c15 : t222 = true
   ·subst c15
    have H1 : ((impl_within.f t220 0 1).bind fun t223 => (impl_Memory_channel.j0 k a1 a2 t218 t219 t220 (!t223) s0_0)) = some (r1, r2, r3, r4) := by rw [if_pos rfl] at H; exact H
    clear H
    have H := H1
    clear H1
    replace H := Option.bind_eq_some_iff.mp H
    obtain ⟨t223, A160, H⟩ := H
    replace H : (impl_Memory_channel.j0 k a1 a2 t218 t219 t220 (!t223) s0_0) = some (r1, r2, r3, r4) := H
    have A16 := aM_ A160
    clear A160
    have H' := aM_ H
    clear H
    go_wp2_with (first | ((with_reducible refine gate_callee (f := 68) rfl ?_); refine gL_ (some 28) Try.func68 #[.int .i64 t218, .int .i64 0, .int .i64 (wrap64 (a2 - 1))] ?_; (with_reducible refine (impl_within.calls t218 0 (wrap64 (a2 - 1)) true _ A12.out).mono ?_); rintro e w' ⟨rfl, ⟨nd, rfl⟩⟩; refine ⟨_, rfl, ?_⟩) | (go_at_call 68; (with_reducible refine (impl_within.calls t219 0 a2 true _ A14.out).mono ?_); rintro e w' ⟨rfl, ⟨nd, rfl⟩⟩) | (go_at_call 68; (with_reducible refine (impl_within.calls t220 0 1 t223 _ A16.out).mono ?_); rintro e w' ⟨rfl, ⟨nd, rfl⟩⟩))
    go_meet
    case rel => exact ⟨_, (!t223), (by first | rfl | (simp; done) | (simp [*]; done)), H', ⟨by first | omega | exact Nat.le_refl _⟩, ⟨rW_ BK217.out⟩, ⟨gI24_ HI0.out⟩, ⟨gK_ HK.out⟩, ⟨gB24_ HB.out⟩⟩
   ·replace c15 := Bool.eq_false_iff.mpr c15
    subst c15
    have H1 : (impl_Memory_channel.j0 k a1 a2 t218 t219 t220 true s0_0) = some (r1, r2, r3, r4) := by rw [if_neg (show ¬ (false = true) by decide)] at H; exact H
    clear H
    have H := H1
    clear H1
    have H' := aM_ H
    clear H
    go_wp2_with (first | ((with_reducible refine gate_callee (f := 68) rfl ?_); refine gL_ (some 28) Try.func68 #[.int .i64 t218, .int .i64 0, .int .i64 (wrap64 (a2 - 1))] ?_; (with_reducible refine (impl_within.calls t218 0 (wrap64 (a2 - 1)) true _ A12.out).mono ?_); rintro e w' ⟨rfl, ⟨nd, rfl⟩⟩; refine ⟨_, rfl, ?_⟩) | (go_at_call 68; (with_reducible refine (impl_within.calls t219 0 a2 false _ A14.out).mono ?_); rintro e w' ⟨rfl, ⟨nd, rfl⟩⟩))
    go_meet
    case rel => exact ⟨_, (true), (by first | rfl | (simp; done) | (simp [*]; done)), H', ⟨by first | omega | exact Nat.le_refl _⟩, ⟨rW_ BK217.out⟩, ⟨gI24_ HI0.out⟩, ⟨gK_ HK.out⟩, ⟨gB24_ HB.out⟩⟩
  ·replace c13 := Bool.eq_false_iff.mpr c13
   subst c13
   have H1 : (impl_Memory_channel.j0 k a1 a2 t218 t219 t220 true s0_0) = some (r1, r2, r3, r4) := by rw [if_neg (show ¬ (false = true) by decide)] at H; exact H
   clear H
   have H := H1
   clear H1
   have H' := aM_ H
   clear H
   go_wp2_with (first | ((with_reducible refine gate_callee (f := 68) rfl ?_); refine gL_ (some 28) Try.func68 #[.int .i64 t218, .int .i64 0, .int .i64 (wrap64 (a2 - 1))] ?_; (with_reducible refine (impl_within.calls t218 0 (wrap64 (a2 - 1)) false _ A12.out).mono ?_); rintro e w' ⟨rfl, ⟨nd, rfl⟩⟩; refine ⟨_, rfl, ?_⟩))
   go_meet
   case rel => exact ⟨_, (true), (by first | rfl | (simp; done) | (simp [*]; done)), H', ⟨by first | omega | exact Nat.le_refl _⟩, ⟨rW_ BK217.out⟩, ⟨gI24_ HI0.out⟩, ⟨gK_ HK.out⟩, ⟨gB24_ HB.out⟩⟩
 case rest =>
  clear HC7
  try clear c1
  try clear p2
  try clear c6
  try clear p6
  try clear c9
  try clear c11
  try clear c13
  try clear c15
  obtain ⟨kq, x40_6, rfl, HA, HJ6, BK217, HI0, HK, HB⟩ := hcut
  cases kq with
  | zero => exact absurd HA.out (by simp [impl_Memory_channel.j0])
  | succ kj6 =>
   have H := HA.out
   clear HA
   simp only [impl_Memory_channel.j0] at H
   by_cases c17 : x40_6 = true
   ·subst c17
    have H1 : (some (0, ([] : List Int), false, false)) = some (r1, r2, r3, r4) := by rw [if_pos rfl] at H; exact H
    clear H
    have H := H1
    clear H1
    simp only [Option.some.injEq, Prod.mk.injEq] at H
    obtain ⟨rfl, rfl, rfl, rfl⟩ := H
    have hnb18 := NB217_0.out
    have hnc18 := NB0_217.out
    obtain ⟨hcz19_0, hcz19_1, hcz19_2, hfz19_0, hfz19_1, hfz19_2⟩ := bR3_ BK217.out
    go_wp2
    refine bodyPost_ret (results_ct rfl _ _ gb217 74 #[.int .i64 0, .slice none 0 0, .bool false] (0, 0) _ rfl (by (with_reducible repeat (first | refine bN_ ?_ _ | refine bD_ ?_ | refine bA_ ?_ _)); refine blk_put (cs := #[.int .i64 0, .slice none 0 0, .bool false]) ?_ 2 _ rfl; (with_reducible repeat (first | refine bN_ ?_ _ | refine bD_ ?_ | refine bA_ ?_ _)); refine blk_put (cs := #[.int .i64 0, .slice none 0 0, .bool false]) ?_ 1 _ rfl; (with_reducible repeat (first | refine bN_ ?_ _ | refine bD_ ?_ | refine bA_ ?_ _)); refine blk_put (cs := #[.int .i64 0, .slice none 0 0, .bool false]) ?_ 0 _ rfl; (with_reducible repeat (first | refine bN_ ?_ _ | refine bD_ ?_ | refine bA_ ?_ _)); exact BK217.out) Try.underlying74 rfl (by kernel_rfl)) rfl ?_
    exact ⟨_, fR_, by first | exact Kd.R_nil _ _ _ _ _ | exact Kd.N_nil _ _ _ _ _ | exact Kd.V_nil _ _ _ _ _ | exact Kd.Q_nil _ _ _ _ _ | exact Kd.S_nil _ _ _ _ _, gI24_ HI0.out, gB24_ HB.out, gK_ HK.out⟩
   ·replace c17 := Bool.eq_false_iff.mpr c17
    subst c17
    have H1 : (impl_Memory_channel.l0 kj6 a1 a2 t218 t219 0 s0_0 a2 ([] : List Int) (t220 == 1)) = some (r1, r2, r3, r4) := by rw [if_neg (show ¬ (false = true) by decide)] at H; exact H
    clear H
    have H := H1
    clear H1
    have H' := aM_ H
    clear H
    go_wp2_with (first | ((with_reducible refine gate_dst (N := 11) rfl ?_); refine bX_ 11 (cs := #[.int .i64 0, .slice none 0 0, .bool false]) (t := 74) ?_; intro gb224 hg w20 hbox hb; have n0 := aM_ (nB_ BK217.out hb); have n1 := aM_ (IsS24.below (gI24_ HI0.out) hb); have n2 := aM_ (KeepBut.trans (gK_ HK.out) (KeepBut.of_below hb g none) (.inl rfl)); have n3 := aM_ (below_step (gB24_ HB.out) hb); have n4 := aM_ (hbox); have n5 := aM_ ((by rw [hg]; exact (keep_size (w := w) (g := g) (row := none) (gK_ HK.out)) : w.heap.size ≤ gb224)); have n6 := aM_ ((Nat.le_trans HW0.out (by rw [hg]; exact (keep_size (w := w) (g := g) (row := none) (gK_ HK.out)) : w.heap.size ≤ gb224) : w0.heap.size ≤ gb224)); have n7 := aM_ (nL_ hg BK217.out); have n8 := aM_ (nG_ hg BK217.out); have n9 := aM_ ((by rw [hg]; exact Nat.ne_of_lt (IsS24.lt (show IsS24 w0 _ g s0_0 from gI24_ HI0.out)) : g ≠ gb224)); have n10 := aM_ ((by rw [hg]; exact Nat.ne_of_gt (IsS24.lt (show IsS24 w0 _ g s0_0 from gI24_ HI0.out)) : gb224 ≠ g)); clear BK217; clear HI0; clear HK; clear HB; have BK217 := n0; have HI0 := n1; have HK := n2; have HB := n3; have BK224 := n4; have GW224 := n5; have GE224 := n6; have NB217_224 := n7; have NB224_217 := n8; have NB0_224 := n9; have NB224_0 := n10; clear n0 n1 n2 n3 n4 n5 n6 n7 n8 n9 n10; clear hb hbox hg; have hnb21 := NB224_217.out; have hnc21 := NB217_224.out; have hnb22 := NB224_0.out; have hnc22 := NB0_224.out; obtain ⟨hcz23_0, hcz23_1, hcz23_2, hfz23_0, hfz23_1, hfz23_2⟩ := bR3_ BK224.out))
    go_loopg [47] kj6 (fun kq v47 w' => ∃ (x47_2 : Int) (x2251_2 : List Int) (u2251 : Value), v47 = .int .i64 x47_2 ∧ Aside0 (impl_Memory_channel.l0 kq a1 a2 t218 t219 x47_2 s0_0 a2 x2251_2 (t220 == 1) = some (r1, r2, r3, r4)) ∧ Aside0 (kq ≤ kj6) ∧ Aside0 (Kd.R (Kd.int .i64) 3 w' w.heap.size (fun _ => True) u2251 x2251_2) ∧ Aside0 (w'.heap[gb217]? = some (.cells #[.int .i64 0, (.slice none 0 0), .bool false] 74 (0, 0))) ∧ Aside0 (w'.heap[gb224]? = some (.cells #[.int .i64 a2, u2251, .bool (t220 == 1)] 74 (0, 0))) ∧ Aside0 (IsS24 w0 w' g s0_0) ∧ Aside0 (KeepBut w w' g none) ∧ Aside0 (Below w0.heap.size w0 w'))
    case atStart => exact ⟨(0), (([] : List Int)), (.slice none 0 0), (by first | rfl | (simp; done) | (simp [*]; done)), H', ⟨Nat.le_refl _⟩, ⟨by first | exact Kd.R_nil _ _ _ _ _ | exact Kd.N_nil _ _ _ _ _ | exact Kd.V_nil _ _ _ _ _ | exact Kd.Q_nil _ _ _ _ _ | exact Kd.S_nil _ _ _ _ _⟩, ⟨by (with_reducible repeat (first | refine bN_ ?_ _ | refine bD_ ?_ | refine bA_ ?_ _)); refine blk_far ?_ NB217_224.out _; (with_reducible repeat (first | refine bN_ ?_ _ | refine bD_ ?_ | refine bA_ ?_ _)); refine blk_far ?_ NB217_224.out _; (with_reducible repeat (first | refine bN_ ?_ _ | refine bD_ ?_ | refine bA_ ?_ _)); refine blk_far ?_ NB217_224.out _; (with_reducible repeat (first | refine bN_ ?_ _ | refine bD_ ?_ | refine bA_ ?_ _)); exact BK217.out⟩, ⟨by (with_reducible repeat (first | refine bN_ ?_ _ | refine bD_ ?_ | refine bA_ ?_ _)); refine blk_put (cs := #[.int .i64 a2, .slice none 0 0, .bool false]) ?_ 2 _ rfl; (with_reducible repeat (first | refine bN_ ?_ _ | refine bD_ ?_ | refine bA_ ?_ _)); refine blk_put (cs := #[.int .i64 a2, .slice none 0 0, .bool false]) ?_ 1 _ rfl; (with_reducible repeat (first | refine bN_ ?_ _ | refine bD_ ?_ | refine bA_ ?_ _)); refine blk_put (cs := #[.int .i64 0, .slice none 0 0, .bool false]) ?_ 0 _ rfl; (with_reducible repeat (first | refine bN_ ?_ _ | refine bD_ ?_ | refine bA_ ?_ _)); exact BK224.out⟩, ⟨gI24_ HI0.out⟩, ⟨gK_ HK.out⟩, ⟨gB24_ HB.out⟩⟩
    case round =>
     clear H'
     try clear c1
     try clear c2
     try clear p2
     try clear c6
     try clear p6
     try clear c9
     try clear c11
     try clear c13
     try clear c15
     try clear c17
     try clear c18
     try clear c21
     try clear c22
     try clear hcz19_0 hcz19_1 hcz19_2 hfz19_0 hfz19_1 hfz19_2
     try clear hcz23_0 hcz23_1 hcz23_2 hfz23_0 hfz23_1 hfz23_2
     try clear p2
     try clear p6
     obtain ⟨x47_2, x2251_2, u2251, rfl, HA, HK2, HO_225001, BK217, BK224, HI0, HK, HB⟩ := hrel
     cases gk with
     | zero => exact absurd HA.out (by simp [impl_Memory_channel.l0])
     | succ k2 =>
      have H := HA.out
      clear HA
      simp only [impl_Memory_channel.l0] at H
      by_cases c24 : x47_2 < t219
      ·rw [if_pos c24] at H
       have c24b0 : decide (x47_2 < t219) = true := decide_eq_true c24
       clear c24
       by_cases c25 : a2 = 0
       ·rw [if_pos c25] at H
        exact absurd H (by simp)
       ·rw [if_neg c25] at H
        have c25b0 : (a2 == 0) = false := beq_eq_false_iff_ne.mpr c25
        have c25b1 : (a2 != 0) = true := bne_iff_ne.mpr c25
        replace H := Option.bind_eq_some_iff.mp H
        obtain ⟨t225, A260, H⟩ := H
        replace H : (if x2251_2.length < 17592186044416 then (impl_Memory_channel.l0 k2 a1 a2 t218 t219 (wrap64 (x47_2 + 1)) s0_0 a2 (x2251_2 ++ [t225]) (t220 == 1)) else (none)) = some (r1, r2, r3, r4) := H
        have A26 := aM_ A260
        clear A260
        by_cases c27 : x2251_2.length < 17592186044416
        ·rw [if_pos c27] at H
         have LMc27 := aM_ c27
         clear c27
         obtain ⟨y226, hy226⟩ : ∃ y_ : List Int, y_ = (x2251_2 ++ [t225]) := ⟨_, rfl⟩
         replace H : (impl_Memory_channel.l0 k2 a1 a2 t218 t219 (wrap64 (x47_2 + 1)) s0_0 a2 y226 (t220 == 1)) = some (r1, r2, r3, r4) := by first | (rw [hy226]; with_reducible exact H) | (have H2_ := (Option.bind_some _ _).symm.trans H; rw [hy226]; with_reducible exact H2_) | (have H2_ := (Option.bind_some _ _).symm.trans H; with_reducible exact H2_) | with_reducible exact H | (rw [hy226]; exact H) | exact H
         have Ny226 := aM_ hy226
         clear hy226
         have H' := aM_ H
         clear H
         try go_wp2
         have n0 := aM_ (Kd.R_drew HO_225001.out)
         have n1 := aM_ (blk_drew BK217.out)
         have n2 := aM_ (blk_drew BK224.out)
         have n3 := aM_ (IsS24.drew HI0.out)
         have n4 := aM_ (keep_drew HK.out)
         have n5 := aM_ (below_drew1 HB.out)
         clear HO_225001
         clear BK217
         clear BK224
         clear HI0
         clear HK
         clear HB
         have HO_225001 := n0
         have BK217 := n1
         have BK224 := n2
         have HI0 := n3
         have HK := n4
         have HB := n5
         clear n0 n1 n2 n3 n4 n5
         refine start_ (n := 16) (S := fun w' => w'.cell? ⟨gb224, 0, none⟩ = some (.int .i64 a2) ∧ w'.cell? ⟨gb224, 1, none⟩ = some (u2251) ∧ w'.cell? ⟨gb224, 2, none⟩ = some (.bool (t220 == 1))) (ds := [15]) #[false, false, false, false, false, false, false, false, false, false, false, false, false, false, false, false] (by kernel_rfl) rfl rfl (bC3_ BK224.out) (fun hHeld => ?_); refine with_tabW impl_Memory_channel.tab8 impl_Memory_channel.bits8 (fun HT_ HW_ => ?_)
         generalize wr.drew = w28 at HO_225001 BK217 BK224 HI0 HK HB hHeld ⊢
         refine pU_ 0 (some 50) (mk_ 16 1) ?_
         refine pU_ 2 (some 52) (mk_ 16 5) ?_
         refine pU_ 3 (some 53) (mk_ 16 13) ?_
         refine pU_ 4 (some 54) (mk_ 16 29) ?_
         refine pU_ 5 (some 55) (mk_ 16 61) ?_
         refine pU_ 6 (some 56) (mk_ 16 125) ?_
         refine pU_ 7 (some 57) (mk_ 16 253) ?_
         refine pU_ 8 (some 58) (mk_ 16 509) ?_
         refine pU_ 9 (some 59) (mk_ 16 1021) ?_
         refine pU_ 10 (some 60) (mk_ 16 2045) ?_
         refine tK3_ 1 (some 51) (mk_ 16 2047) ?_
         refine oN_ 11 (some 61) (mk_ 16 4095) (fun K hK => ?_)
         refine gO_ Try.func111 #[.pointer (some ⟨g, 0, none⟩), .int .i64 (wrap64 ((wrap64 (a1 + 4)) + (Int.tmod (wrap64 (t218 + x47_2)) a2)))] ?_
         with_reducible refine (impl_Memory_last.calls g s0_0 (wrap64 ((wrap64 (a1 + 4)) + (Int.tmod (wrap64 (t218 + x47_2)) a2))) t225 w0 _ ?side1 ?side2 A26.out).mono ?_
         (case side1 => exact gI24_ HI0.out)
         (case side2 => exact gB24_ HB.out)
         rintro e w29 ⟨rfl, hi, hb, hk⟩
         refine ⟨_, rfl, ?_⟩
         have n0 := aM_ (Kd.R_mono (Kd.R_keep (IsS24.apart (show IsS24 w0 _ g s0_0 from gI24_ HI0.out) (by (with_reducible repeat (first | apply rA_ | apply rN_ | apply rD_)); exact HO_225001.out) (by decide)) hk (fun _ h => h.2)) (fun _ h => h.1))
         have n1 := aM_ (KeepBut.blk hk (g' := gb217) (o := .cells #[.int .i64 0, .slice none 0 0, .bool false] 74 (0, 0)) (by (with_reducible repeat (first | refine bN_ ?_ _ | refine bD_ ?_ | refine bA_ ?_ _)); exact BK217.out) NB217_0.out (by simp))
         have n2 := aM_ (KeepBut.blk hk (g' := gb224) (o := .cells #[.int .i64 a2, u2251, .bool (t220 == 1)] 74 (0, 0)) (by (with_reducible repeat (first | refine bN_ ?_ _ | refine bD_ ?_ | refine bA_ ?_ _)); exact BK224.out) NB224_0.out (by simp))
         have n3 := aM_ (KeepBut.trans (gK_ HK.out) hk (.inl rfl))
         have n4 := aM_ (hb)
         have n5 := aM_ (hi)
         clear HO_225001
         clear BK217
         clear BK224
         clear HK
         clear HB
         clear HI0
         have HO_225001 := n0
         have BK217 := n1
         have BK224 := n2
         have HK := n3
         have HB := n4
         have HI0 := n5
         clear n0 n1 n2 n3 n4 n5
         (try clear hb)
         (try clear hb2)
         (try clear hk)
         (try clear hi)
         refine hK.out _ _ (bC3_ BK224.out) (fun hHeld => ?_)
         clear hK K
         refine norm_ (a' := ?_) ?_ ?_
         rotate_left
         ·show Act.put _ (some 61) _ = _
          simp only [pt_, pn_, sI_, s0_, s1_, i64_w, i32_w]
          rfl
         refine oN_ 12 (some 62) (mk_ 16 8191) (fun K hK => ?_)
         refine value_ (w1 := ?_) (v := ?_) (by rfl) rfl ?_ ?_
         rotate_left 2
         ·go_simp
          constructor
          ·rfl
          ·rfl
         refine hK.out _ _ ⟨(blk_cell (blk_alloc BK224.out _) 0).trans rfl, (blk_cell (blk_alloc BK224.out _) 1).trans rfl, (blk_cell (blk_alloc BK224.out _) 2).trans rfl⟩ (fun hHeld => ?_)
         clear hK K
         refine norm_ (a' := ?_) ?_ ?_
         rotate_left
         ·show Act.put _ (some 62) _ = _
          simp only [pt_, pn_, sI_, s0_, s1_, i64_w, i32_w]
          rfl
         refine oN_ 13 (some 63) (mk_ 16 16383) (fun K hK => ?_)
         refine Kd.R_append_step (Kd.int .i64) w.heap.size (by rfl) (.tmp 51) (.tmp 62) 31 3 (.int .i64 0) 8 rfl Try.underlying31 info3 rfl (by decide) (by omega) u2251 x2251_2 t225 [.int .i64 t225] (fun _ => True) (fun _ => False) rfl rfl ?aP (fun _ hk => hk.elim) ?aF ?aO (Below.refl _ _) ?aS ?aL ?_
         (case aP => exact rfl)
         (case aF => exact (fun _ _ => trivial))
         (case aO => exact (by (with_reducible repeat (first | apply rA_ | apply rN_ | apply rD_)); exact HO_225001.out))
         (case aS => exact (keep_size (w := w) (g := g) (row := none) (gK_ HK.out)))
         (case aL => have := LMc27.out; omega)
         intro v227 w30 ho hb hg hat
         rw [← Ny226.out] at ho
         have n0 := aM_ (blk_grown (g := gb217) (o := .cells #[.int .i64 0, .slice none 0 0, .bool false] 74 (0, 0)) (by (with_reducible repeat (first | refine bN_ ?_ _ | refine bD_ ?_ | refine bA_ ?_ _)); exact BK217.out) hg (Kd.R_ne HO_225001.out BK217.out (by decide)))
         have n1 := aM_ (blk_grown (g := gb224) (o := .cells #[.int .i64 a2, u2251, .bool (t220 == 1)] 74 (0, 0)) (by (with_reducible repeat (first | refine bN_ ?_ _ | refine bD_ ?_ | refine bA_ ?_ _)); exact BK224.out) hg (Kd.R_ne HO_225001.out BK224.out (by decide)))
         have n2 := aM_ (IsS24.grown (gI24_ HI0.out) hg (IsS24.own_ne HI0.out HO_225001.out (by decide)))
         have n3 := aM_ (below_weaken (gB24_ HB.out) HL.out hb)
         have n4 := aM_ (KeepBut.trans (gK_ HK.out) (KeepBut.of_grown hg g) (Kd.R_base2 HO_225001.out))
         have n5 := aM_ (ho)
         clear BK217
         clear BK224
         clear HI0
         clear HB
         clear HK
         clear HO_225001
         have BK217 := n0
         have BK224 := n1
         have HI0 := n2
         have HB := n3
         have HK := n4
         have HO228 := n5
         clear n0 n1 n2 n3 n4 n5
         clear ho hb hg hat
         obtain ⟨Ao31, co31, eo31⟩ := Kd.R_slice HO228.out
         (first | subst eo31 | (injection eo31 with f1_ f2_ f3_; have f4_ := f1_.symm; have f5_ := f3_.symm; clear f1_ f2_ f3_; subst f4_; subst f5_))
         refine hK.out _ _ (bC3_ BK224.out) (fun hHeld => ?_)
         clear hK K
         refine norm_ (a' := ?_) ?_ ?_
         rotate_left
         ·show Act.put _ (some 63) _ = _
          simp only [pt_, pn_, sI_, s0_, s1_, i64_w, i32_w]
          rfl
         refine pU_ 14 (some 64) (mk_ 16 32767) ?_
         refine last_ (i := 15) (N := none) #[true, true, true, true, true, true, true, true, true, true, true, true, true, true, true, true] rfl rfl (one_of HT_.out (by kernel_rfl)) (by decide) (fun K hK => ?_)
         have hs32 : w30.cell? ⟨gb224, 1, none⟩ = some (u2251) := (blk_cell BK224.out 1).trans rfl
         have hfs32 := blk_frozen BK224.out 1
         have hns32_0 := NB217_224.out
         have hms32_0 := NB224_217.out
         refine skip_ (w1 := ?_) (by rfl) rfl ?_ ?_
         rotate_left
         ·go_simp
          rfl
         refine hK.out _ _ ?_
         clear hK K
         refine done_ (done_of HT_.out (by kernel_rfl)) ?_
         try go_wp2
         go_roundg k2
         case measure => have := HJ6.out; have := HK2.out; omega
         case rel => exact ⟨(wrap64 (x47_2 + 1)), (y226), (.slice Ao31 y226.length co31), (by first | rfl | (simp; done) | (simp [*]; done)), H', ⟨by have := HJ6.out; have := HK2.out; omega⟩, ⟨by (with_reducible repeat (first | apply rA_ | apply rN_ | apply rD_)); exact Kd.R_mono (Kd.R_far (p := ⟨gb224, 1, none⟩) (Kd.R_types HO228.out BK224.out (by decide)) (fun _ hk => hk.2) (.slice Ao31 y226.length co31)) (fun _ hk => trivial)⟩, ⟨by (with_reducible repeat (first | refine bN_ ?_ _ | refine bD_ ?_ | refine bA_ ?_ _)); refine blk_far ?_ NB217_224.out _; (with_reducible repeat (first | refine bN_ ?_ _ | refine bD_ ?_ | refine bA_ ?_ _)); exact BK217.out⟩, ⟨by (with_reducible repeat (first | refine bN_ ?_ _ | refine bD_ ?_ | refine bA_ ?_ _)); refine blk_put (cs := #[.int .i64 a2, u2251, .bool (t220 == 1)]) ?_ 1 _ rfl; (with_reducible repeat (first | refine bN_ ?_ _ | refine bD_ ?_ | refine bA_ ?_ _)); exact BK224.out⟩, ⟨gI24_ HI0.out⟩, ⟨gK_ HK.out⟩, ⟨gB24_ HB.out⟩⟩
        ·rw [if_neg c27] at H
         exact absurd H (by simp)
      ·rw [if_neg c24] at H
       have c24b0 : decide (x47_2 < t219) = false := decide_eq_false c24
       clear c24
       simp only [Option.some.injEq, Prod.mk.injEq] at H
       obtain ⟨rfl, rfl, rfl, rfl⟩ := H
       have hnb33 := NB224_217.out
       have hnc33 := NB217_224.out
       have hnb34 := NB224_0.out
       have hnc34 := NB0_224.out
       obtain ⟨hcz35_0, hcz35_1, hcz35_2, hfz35_0, hfz35_1, hfz35_2⟩ := bR3_ BK224.out
       have hnb36 := NB217_0.out
       have hnc36 := NB0_217.out
       obtain ⟨hcz37_0, hcz37_1, hcz37_2, hfz37_0, hfz37_1, hfz37_2⟩ := bR3_ BK217.out
       obtain ⟨Ao38, co38, eo38⟩ := Kd.R_slice HO_225001.out
       subst eo38
       go_wp2
       refine bodyPost_ret (results_ct rfl _ _ gb217 74 #[.int .i64 a2, .slice Ao38 x2251_2.length co38, .bool (t220 == 1)] (0, 0) _ rfl (by (with_reducible repeat (first | refine bN_ ?_ _ | refine bD_ ?_ | refine bA_ ?_ _)); refine blk_put (cs := #[.int .i64 a2, .slice Ao38 x2251_2.length co38, .bool false]) ?_ 2 _ rfl; (with_reducible repeat (first | refine bN_ ?_ _ | refine bD_ ?_ | refine bA_ ?_ _)); refine blk_put (cs := #[.int .i64 a2, .slice none 0 0, .bool false]) ?_ 1 _ rfl; (with_reducible repeat (first | refine bN_ ?_ _ | refine bD_ ?_ | refine bA_ ?_ _)); refine blk_put (cs := #[.int .i64 0, .slice none 0 0, .bool false]) ?_ 0 _ rfl; (with_reducible repeat (first | refine bN_ ?_ _ | refine bD_ ?_ | refine bA_ ?_ _)); exact BK217.out) Try.underlying74 rfl (by kernel_rfl)) rfl ?_
       exact ⟨_, fR_, by (with_reducible repeat (first | apply rA_ | apply rN_ | apply rD_)); exact Kd.R_mono (Kd.R_far (p := ⟨gb217, 2, none⟩) (Kd.R_far (p := ⟨gb217, 1, none⟩) (Kd.R_far (p := ⟨gb217, 0, none⟩) (Kd.R_types HO_225001.out BK217.out (by decide)) (fun _ hk => hk.2) (.int .i64 a2)) (fun _ hk => hk.2) (.slice Ao38 x2251_2.length co38)) (fun _ hk => hk.2) (.bool (t220 == 1))) (fun _ hk => trivial), gI24_ HI0.out, gB24_ HB.out, gK_ HK.out⟩
def impl_ChanIn.f (k : Nat) (l0_0 : List (List (S43))) (l1 : List Int) (a2 : Int) : Option (Int × List Int × Bool × Bool) := (impl_Base.f k l1 a2).bind fun t231 => (if t231 < 0 then (some (0, ([] : List Int), false, false)) else ((impl_MemoryOk.f k l0_0).bind fun t232 => (if t232 = true then (if 0 ≤ a2 then (if a2 < (l1.length : Int) then ((impl_Memory_channel.f k l0_0 t231 (rd l1 a2)).bind fun bt234 => (some (bt234.1, bt234.2.1, bt234.2.2.1, bt234.2.2.2))) else (none)) else (none)) else (some (0, ([] : List Int), false, false)))))
set_option maxHeartbeats 8000000 in
set_option maxRecDepth 100000 in
theorem impl_ChanIn.calls (k : Nat) (A0_0 : Option Addr) (c0_0 : Nat) (l0_0 : List (List (S43))) (A1 : Option Addr) (c1 : Nat) (l1 : List Int) (a2 : Int) (r1 : Int) (r2 : List Int) (r3 : Bool) (r4 : Bool) (w : World) (hr0_0 : Kd.C (Kd.slice 43 k43) w A0_0 l0_0.length l0_0) (hc0_0 : l0_0.length ≤ c0_0) (hr1 : Kd.C (Kd.int .i64) w A1 l1.length l1) (hc1 : l1.length ≤ c1) (h : impl_ChanIn.f k l0_0 l1 a2 = some (r1, r2, r3, r4)) :
  Calls Try.prog 48 #[.agg #[.slice A0_0 l0_0.length c0_0], .slice A1 l1.length c1, .int .i64 a2] w fun e w' => ∃ v1_ : Value, e = .returned (.tuple #[.agg #[.int .i64 r1, v1_, .bool r3], .bool r4]) ∧ Kd.R (Kd.int .i64) 3 w' w.heap.size (fun _ => True) v1_ r2 ∧ Below w.heap.size w w' := by
 have hu24 := Try.underlying24
 have hu74 := Try.underlying74
 have HR0_0 := aM_ hr0_0
 have HC0_0 := aM_ hc0_0
 clear hr0_0 hc0_0
 have HR1 := aM_ hr1
 have HC1 := aM_ hc1
 clear hr1 hc1
 have HB := aM_ (Below.refl w.heap.size w)
 have H : ((impl_Base.f k l1 a2).bind fun t231 => (if t231 < 0 then (some (0, ([] : List Int), false, false)) else ((impl_MemoryOk.f k l0_0).bind fun t232 => (if t232 = true then (if 0 ≤ a2 then (if a2 < (l1.length : Int) then ((impl_Memory_channel.f k l0_0 t231 (rd l1 a2)).bind fun bt234 => (some (bt234.1, bt234.2.1, bt234.2.2.1, bt234.2.2.2))) else (none)) else (none)) else (some (0, ([] : List Int), false, false)))))) = some (r1, r2, r3, r4) := h
 clear h
 replace H := Option.bind_eq_some_iff.mp H
 obtain ⟨t231, A40, H⟩ := H
 replace H : (if t231 < 0 then (some (0, ([] : List Int), false, false)) else ((impl_MemoryOk.f k l0_0).bind fun t232 => (if t232 = true then (if 0 ≤ a2 then (if a2 < (l1.length : Int) then ((impl_Memory_channel.f k l0_0 t231 (rd l1 a2)).bind fun bt234 => (some (bt234.1, bt234.2.1, bt234.2.2.1, bt234.2.2.2))) else (none)) else (none)) else (some (0, ([] : List Int), false, false))))) = some (r1, r2, r3, r4) := H
 have A4 := aM_ A40
 clear A40
 by_cases c5 : t231 < 0
 ·rw [if_pos c5] at H
  have c5b0 : decide (t231 < 0) = true := decide_eq_true c5
  clear c5
  simp only [Option.some.injEq, Prod.mk.injEq] at H
  obtain ⟨rfl, rfl, rfl, rfl⟩ := H
  go_enter Try.func48, Try.ntmps48
  go_wp2_with (first | ((with_reducible refine gate_dst (N := 3) rfl ?_); refine bX_ 3 (cs := #[.slice A0_0 l0_0.length c0_0]) (t := 24) ?_; intro gb229 hg w6 hbox hb; have n0 := aM_ (sT_ HB.out hb); have n1 := aM_ (hbox); have n2 := aM_ (sZ_ hg HB.out); have n3 := aM_ (sZ_ hg HB.out); clear HB; have HB := n0; have BK229 := n1; have GW229 := n2; have GE229 := n3; clear n0 n1 n2 n3; clear hb hbox hg) | ((with_reducible refine gate_dst (N := 6) rfl ?_); refine bX_ 6 (cs := #[.int .i64 0, .slice none 0 0, .bool false]) (t := 74) ?_; intro gb230 hg w7 hbox hb; have n0 := aM_ (nB_ BK229.out hb); have n1 := aM_ (sT_ HB.out hb); have n2 := aM_ (hbox); have n3 := aM_ (sZ_ hg HB.out); have n4 := aM_ (sZ_ hg HB.out); have n5 := aM_ (nL_ hg BK229.out); have n6 := aM_ (nG_ hg BK229.out); clear BK229; clear HB; have BK229 := n0; have HB := n1; have BK230 := n2; have GW230 := n3; have GE230 := n4; have NB229_230 := n5; have NB230_229 := n6; clear n0 n1 n2 n3 n4 n5 n6; clear hb hbox hg) | ((with_reducible refine gate_callee (f := 89) rfl ?_); refine gL_ (some 11) Try.func89 #[.slice A1 l1.length c1, .int .i64 a2] ?_; (with_reducible refine (impl_Base.calls k _ _ l1 a2 t231 _ ?side1 ?side2 A4.out).mono ?_); (case side1 => exact cS_ (Kd.C_below HR1.out HB.out)); (case side2 => exact HC1.out); rintro e w' ⟨rfl, ⟨nd, rfl⟩⟩; refine ⟨_, rfl, ?_⟩; (try (rw [drewN_self w7]; generalize hq_ : World.drewN w7 _ = w7; have n0 : Aside0 (w7.heap[gb229]? = some (.cells #[.slice A0_0 l0_0.length c0_0] 24 (0, 0))) := ⟨by rw [← hq_]; exact (by (with_reducible repeat (first | refine bN_ ?_ _ | refine bD_ ?_ | refine bA_ ?_ _)); exact BK229.out)⟩; have n1 : Aside0 (w7.heap[gb230]? = some (.cells #[.int .i64 0, .slice none 0 0, .bool false] 74 (0, 0))) := ⟨by rw [← hq_]; exact (by (with_reducible repeat (first | refine bN_ ?_ _ | refine bD_ ?_ | refine bA_ ?_ _)); exact BK230.out)⟩; have n2 : Aside0 (Below w.heap.size w w7) := ⟨by rw [← hq_]; exact (gB_ HB.out)⟩; clear BK229 BK230 HB hq_; have BK229 := n0; have BK230 := n1; have HB := n2; clear n0 n1 n2)); have hnb8 := NB230_229.out; have hnc8 := NB229_230.out; obtain ⟨hcz9_0, hcz9_1, hcz9_2, hfz9_0, hfz9_1, hfz9_2⟩ := bR3_ BK230.out))
  refine bodyPost_ret (results_ct rfl _ _ gb230 74 #[.int .i64 0, .slice none 0 0, .bool false] (0, 0) _ rfl (by (with_reducible repeat (first | refine bN_ ?_ _ | refine bD_ ?_ | refine bA_ ?_ _)); refine blk_put (cs := #[.int .i64 0, .slice none 0 0, .bool false]) ?_ 2 _ rfl; (with_reducible repeat (first | refine bN_ ?_ _ | refine bD_ ?_ | refine bA_ ?_ _)); refine blk_put (cs := #[.int .i64 0, .slice none 0 0, .bool false]) ?_ 1 _ rfl; (with_reducible repeat (first | refine bN_ ?_ _ | refine bD_ ?_ | refine bA_ ?_ _)); refine blk_put (cs := #[.int .i64 0, .slice none 0 0, .bool false]) ?_ 0 _ rfl; (with_reducible repeat (first | refine bN_ ?_ _ | refine bD_ ?_ | refine bA_ ?_ _)); exact BK230.out) Try.underlying74 rfl (by kernel_rfl)) rfl ?_
  exact ⟨_, fR_, by first | exact Kd.R_nil _ _ _ _ _ | exact Kd.N_nil _ _ _ _ _ | exact Kd.V_nil _ _ _ _ _ | exact Kd.Q_nil _ _ _ _ _ | exact Kd.S_nil _ _ _ _ _, gB_ HB.out⟩
 ·rw [if_neg c5] at H
  have c5b0 : decide (t231 < 0) = false := decide_eq_false c5
  clear c5
  replace H := Option.bind_eq_some_iff.mp H
  obtain ⟨t232, A100, H⟩ := H
  replace H : (if t232 = true then (if 0 ≤ a2 then (if a2 < (l1.length : Int) then ((impl_Memory_channel.f k l0_0 t231 (rd l1 a2)).bind fun bt234 => (some (bt234.1, bt234.2.1, bt234.2.2.1, bt234.2.2.2))) else (none)) else (none)) else (some (0, ([] : List Int), false, false))) = some (r1, r2, r3, r4) := H
  have A10 := aM_ A100
  clear A100
  by_cases c11 : t232 = true
  ·subst c11
   have H1 : (if 0 ≤ a2 then (if a2 < (l1.length : Int) then ((impl_Memory_channel.f k l0_0 t231 (rd l1 a2)).bind fun bt234 => (some (bt234.1, bt234.2.1, bt234.2.2.1, bt234.2.2.2))) else (none)) else (none)) = some (r1, r2, r3, r4) := by rw [if_pos rfl] at H; exact H
   clear H
   have H := H1
   clear H1
   by_cases c12 : 0 ≤ a2
   ·rw [if_pos c12] at H
    have c12b0 : decide (0 ≤ a2) = true := decide_eq_true c12
    clear c12
    by_cases c13 : a2 < (l1.length : Int)
    ·rw [if_pos c13] at H
     have c13b0 : decide (a2 < (l1.length : Int)) = true := decide_eq_true c13
     clear c13
     replace H := Option.bind_eq_some_iff.mp H
     obtain ⟨⟨t234, t235, t238, t239⟩, A140, H⟩ := H
     replace H : (some (t234, t235, t238, t239)) = some (r1, r2, r3, r4) := H
     have A14 := aM_ A140
     clear A140
     simp only [Option.some.injEq, Prod.mk.injEq] at H
     obtain ⟨rfl, rfl, rfl, rfl⟩ := H
     go_enter Try.func48, Try.ntmps48
     go_wp2_with (first | ((with_reducible refine gate_dst (N := 3) rfl ?_); refine bX_ 3 (cs := #[.slice A0_0 l0_0.length c0_0]) (t := 24) ?_; intro gb229 hg w15 hbox hb; have n0 := aM_ (sT_ HB.out hb); have n1 := aM_ (hbox); have n2 := aM_ (sZ_ hg HB.out); have n3 := aM_ (sZ_ hg HB.out); clear HB; have HB := n0; have BK229 := n1; have GW229 := n2; have GE229 := n3; clear n0 n1 n2 n3; clear hb hbox hg) | ((with_reducible refine gate_dst (N := 6) rfl ?_); refine bX_ 6 (cs := #[.int .i64 0, .slice none 0 0, .bool false]) (t := 74) ?_; intro gb230 hg w16 hbox hb; have n0 := aM_ (nB_ BK229.out hb); have n1 := aM_ (sT_ HB.out hb); have n2 := aM_ (hbox); have n3 := aM_ (sZ_ hg HB.out); have n4 := aM_ (sZ_ hg HB.out); have n5 := aM_ (nL_ hg BK229.out); have n6 := aM_ (nG_ hg BK229.out); clear BK229; clear HB; have BK229 := n0; have HB := n1; have BK230 := n2; have GW230 := n3; have GE230 := n4; have NB229_230 := n5; have NB230_229 := n6; clear n0 n1 n2 n3 n4 n5 n6; clear hb hbox hg) | ((with_reducible refine gate_callee (f := 89) rfl ?_); refine gL_ (some 11) Try.func89 #[.slice A1 l1.length c1, .int .i64 a2] ?_; (with_reducible refine (impl_Base.calls k _ _ l1 a2 t231 _ ?side1 ?side2 A4.out).mono ?_); (case side1 => exact cS_ (Kd.C_below HR1.out HB.out)); (case side2 => exact HC1.out); rintro e w' ⟨rfl, ⟨nd, rfl⟩⟩; refine ⟨_, rfl, ?_⟩; (try (rw [drewN_self w16]; generalize hq_ : World.drewN w16 _ = w16; have n0 : Aside0 (w16.heap[gb229]? = some (.cells #[.slice A0_0 l0_0.length c0_0] 24 (0, 0))) := ⟨by rw [← hq_]; exact (by (with_reducible repeat (first | refine bN_ ?_ _ | refine bD_ ?_ | refine bA_ ?_ _)); exact BK229.out)⟩; have n1 : Aside0 (w16.heap[gb230]? = some (.cells #[.int .i64 0, .slice none 0 0, .bool false] 74 (0, 0))) := ⟨by rw [← hq_]; exact (by (with_reducible repeat (first | refine bN_ ?_ _ | refine bD_ ?_ | refine bA_ ?_ _)); exact BK230.out)⟩; have n2 : Aside0 (Below w.heap.size w w16) := ⟨by rw [← hq_]; exact (gB_ HB.out)⟩; clear BK229 BK230 HB hq_; have BK229 := n0; have BK230 := n1; have HB := n2; clear n0 n1 n2)); have hnb17 := NB229_230.out; have hnc17 := NB230_229.out; have hcz18_0 : w16.cell? ⟨gb229, 0, none⟩ = some (.slice A0_0 l0_0.length c0_0) := (blk_cell BK229.out 0).trans rfl; have hfz18_0 := blk_frozen BK229.out 0) | (go_at_call 26; (with_reducible refine (impl_MemoryOk.calls k _ _ l0_0 true _ ?side1 ?side2 A10.out).mono ?_); (case side1 => exact cS_ (Kd.C_below HR0_0.out HB.out)); (case side2 => exact HC0_0.out); rintro e w19 ⟨rfl, hb⟩; have n0 := aM_ (nB_ BK229.out hb); have n1 := aM_ (nB_ BK230.out hb); have n2 := aM_ (sT_ HB.out hb); clear BK229; clear BK230; clear HB; have BK229 := n0; have BK230 := n1; have HB := n2; clear n0 n1 n2; have p233 : 0 ≤ (a2 : Int) := of_decide_eq_true (by first | (with_reducible assumption) | assumption); have q233 : a2 < (l1.length : Int) := of_decide_eq_true (by first | (with_reducible assumption) | assumption); obtain ⟨ad233, e233, hx233_0⟩ := Kd.at_int HR1.out a2 p233 q233; cases e233; replace hx233_0 := cB_ HB.out hx233_0; replace p233 := eq_true p233; replace q233 := eq_true q233) | ((with_reducible refine gate_callee (f := 90) rfl ?_); refine gL_ (some 25) Try.func90 #[.pointer (some ⟨gb229, 0, none⟩), .int .i64 t231, .int .i64 (rd l1 a2)] ?_; (with_reducible refine (impl_Memory_channel.calls k gb229 l0_0 t231 (rd l1 a2) t234 t235 t238 t239 w _ ?sideS ?sideB A14.out).mono ?_); (case sideS => exact ⟨A0_0, c0_0, (by (with_reducible repeat (first | refine bN_ ?_ _ | refine bD_ ?_ | refine bA_ ?_ _)); exact BK229.out), GE229.out, HR0_0.out⟩); (case sideB => exact (gB_ HB.out)); rintro e w20 ⟨v236, rfl, ho0, hi_, hb, hk_⟩; refine ⟨_, rfl, ?_⟩; have n0 := aM_ (Kd.R_lower ho0 (below_size (gB_ HB.out))); have n2 := aM_ ((hk_.2 gb230 (blk_lt (by (with_reducible repeat (first | refine bN_ ?_ _ | refine bD_ ?_ | refine bA_ ?_ _)); exact BK230.out)) (NB230_229.out) (by simp)).trans (by (with_reducible repeat (first | refine bN_ ?_ _ | refine bD_ ?_ | refine bA_ ?_ _)); exact BK230.out)); have n3 := aM_ hb; clear BK229; clear BK230; clear HB; have HO237 := n0; have BK230 := n2; have HB := n3; clear n0 n2 n3; (try clear hi_ hk_); (try clear ho0); obtain ⟨hcz21_0, hcz21_1, hcz21_2, hfz21_0, hfz21_1, hfz21_2⟩ := bR3_ BK230.out; obtain ⟨Ao22, co22, eo22⟩ := Kd.R_slice HO237.out; subst eo22))
     refine bodyPost_ret (results_ct rfl _ _ gb230 74 #[.int .i64 t234, .slice Ao22 t235.length co22, .bool t238] (0, 0) _ rfl (by (with_reducible repeat (first | refine bN_ ?_ _ | refine bD_ ?_ | refine bA_ ?_ _)); refine blk_put (cs := #[.int .i64 t234, .slice Ao22 t235.length co22, .bool false]) ?_ 2 _ rfl; (with_reducible repeat (first | refine bN_ ?_ _ | refine bD_ ?_ | refine bA_ ?_ _)); refine blk_put (cs := #[.int .i64 t234, .slice none 0 0, .bool false]) ?_ 1 _ rfl; (with_reducible repeat (first | refine bN_ ?_ _ | refine bD_ ?_ | refine bA_ ?_ _)); refine blk_put (cs := #[.int .i64 0, .slice none 0 0, .bool false]) ?_ 0 _ rfl; (with_reducible repeat (first | refine bN_ ?_ _ | refine bD_ ?_ | refine bA_ ?_ _)); exact BK230.out) Try.underlying74 rfl (by kernel_rfl)) rfl ?_
     exact ⟨_, fR_, by (with_reducible repeat (first | apply rA_ | apply rN_ | apply rD_)); exact Kd.R_mono (Kd.R_far (p := ⟨gb230, 2, none⟩) (Kd.R_far (p := ⟨gb230, 1, none⟩) (Kd.R_far (p := ⟨gb230, 0, none⟩) (Kd.R_types HO237.out BK230.out (by decide)) (fun _ hk => hk.2) (.int .i64 t234)) (fun _ hk => hk.2) (.slice Ao22 t235.length co22)) (fun _ hk => hk.2) (.bool t238)) (fun _ hk => trivial), gB_ HB.out⟩
    ·rw [if_neg c13] at H
     exact absurd H (by simp)
   ·rw [if_neg c12] at H
    exact absurd H (by simp)
  ·replace c11 := Bool.eq_false_iff.mpr c11
   subst c11
   have H1 : (some (0, ([] : List Int), false, false)) = some (r1, r2, r3, r4) := by rw [if_neg (show ¬ (false = true) by decide)] at H; exact H
   clear H
   have H := H1
   clear H1
   simp only [Option.some.injEq, Prod.mk.injEq] at H
   obtain ⟨rfl, rfl, rfl, rfl⟩ := H
   go_enter Try.func48, Try.ntmps48
   go_wp2_with (first | ((with_reducible refine gate_dst (N := 3) rfl ?_); refine bX_ 3 (cs := #[.slice A0_0 l0_0.length c0_0]) (t := 24) ?_; intro gb229 hg w23 hbox hb; have n0 := aM_ (sT_ HB.out hb); have n1 := aM_ (hbox); have n2 := aM_ (sZ_ hg HB.out); have n3 := aM_ (sZ_ hg HB.out); clear HB; have HB := n0; have BK229 := n1; have GW229 := n2; have GE229 := n3; clear n0 n1 n2 n3; clear hb hbox hg) | ((with_reducible refine gate_dst (N := 6) rfl ?_); refine bX_ 6 (cs := #[.int .i64 0, .slice none 0 0, .bool false]) (t := 74) ?_; intro gb230 hg w24 hbox hb; have n0 := aM_ (nB_ BK229.out hb); have n1 := aM_ (sT_ HB.out hb); have n2 := aM_ (hbox); have n3 := aM_ (sZ_ hg HB.out); have n4 := aM_ (sZ_ hg HB.out); have n5 := aM_ (nL_ hg BK229.out); have n6 := aM_ (nG_ hg BK229.out); clear BK229; clear HB; have BK229 := n0; have HB := n1; have BK230 := n2; have GW230 := n3; have GE230 := n4; have NB229_230 := n5; have NB230_229 := n6; clear n0 n1 n2 n3 n4 n5 n6; clear hb hbox hg) | ((with_reducible refine gate_callee (f := 89) rfl ?_); refine gL_ (some 11) Try.func89 #[.slice A1 l1.length c1, .int .i64 a2] ?_; (with_reducible refine (impl_Base.calls k _ _ l1 a2 t231 _ ?side1 ?side2 A4.out).mono ?_); (case side1 => exact cS_ (Kd.C_below HR1.out HB.out)); (case side2 => exact HC1.out); rintro e w' ⟨rfl, ⟨nd, rfl⟩⟩; refine ⟨_, rfl, ?_⟩; (try (rw [drewN_self w24]; generalize hq_ : World.drewN w24 _ = w24; have n0 : Aside0 (w24.heap[gb229]? = some (.cells #[.slice A0_0 l0_0.length c0_0] 24 (0, 0))) := ⟨by rw [← hq_]; exact (by (with_reducible repeat (first | refine bN_ ?_ _ | refine bD_ ?_ | refine bA_ ?_ _)); exact BK229.out)⟩; have n1 : Aside0 (w24.heap[gb230]? = some (.cells #[.int .i64 0, .slice none 0 0, .bool false] 74 (0, 0))) := ⟨by rw [← hq_]; exact (by (with_reducible repeat (first | refine bN_ ?_ _ | refine bD_ ?_ | refine bA_ ?_ _)); exact BK230.out)⟩; have n2 : Aside0 (Below w.heap.size w w24) := ⟨by rw [← hq_]; exact (gB_ HB.out)⟩; clear BK229 BK230 HB hq_; have BK229 := n0; have BK230 := n1; have HB := n2; clear n0 n1 n2)); have hnb25 := NB229_230.out; have hnc25 := NB230_229.out; have hcz26_0 : w24.cell? ⟨gb229, 0, none⟩ = some (.slice A0_0 l0_0.length c0_0) := (blk_cell BK229.out 0).trans rfl; have hfz26_0 := blk_frozen BK229.out 0) | (go_at_call 26; (with_reducible refine (impl_MemoryOk.calls k _ _ l0_0 false _ ?side1 ?side2 A10.out).mono ?_); (case side1 => exact cS_ (Kd.C_below HR0_0.out HB.out)); (case side2 => exact HC0_0.out); rintro e w27 ⟨rfl, hb⟩; have n0 := aM_ (nB_ BK229.out hb); have n1 := aM_ (nB_ BK230.out hb); have n2 := aM_ (sT_ HB.out hb); clear BK229; clear BK230; clear HB; have BK229 := n0; have BK230 := n1; have HB := n2; clear n0 n1 n2; obtain ⟨hcz28_0, hcz28_1, hcz28_2, hfz28_0, hfz28_1, hfz28_2⟩ := bR3_ BK230.out))
   refine bodyPost_ret (results_ct rfl _ _ gb230 74 #[.int .i64 0, .slice none 0 0, .bool false] (0, 0) _ rfl (by (with_reducible repeat (first | refine bN_ ?_ _ | refine bD_ ?_ | refine bA_ ?_ _)); refine blk_put (cs := #[.int .i64 0, .slice none 0 0, .bool false]) ?_ 2 _ rfl; (with_reducible repeat (first | refine bN_ ?_ _ | refine bD_ ?_ | refine bA_ ?_ _)); refine blk_put (cs := #[.int .i64 0, .slice none 0 0, .bool false]) ?_ 1 _ rfl; (with_reducible repeat (first | refine bN_ ?_ _ | refine bD_ ?_ | refine bA_ ?_ _)); refine blk_put (cs := #[.int .i64 0, .slice none 0 0, .bool false]) ?_ 0 _ rfl; (with_reducible repeat (first | refine bN_ ?_ _ | refine bD_ ?_ | refine bA_ ?_ _)); exact BK230.out) Try.underlying74 rfl (by kernel_rfl)) rfl ?_
   exact ⟨_, fR_, by first | exact Kd.R_nil _ _ _ _ _ | exact Kd.N_nil _ _ _ _ _ | exact Kd.V_nil _ _ _ _ _ | exact Kd.Q_nil _ _ _ _ _ | exact Kd.S_nil _ _ _ _ _, gB_ HB.out⟩
def laws_eqChan.f (k : Nat) (a0_0 : Int) (l0_1 : List Int) (a0_2 : Bool) (a1_0 : Int) (l1_1 : List Int) (a1_2 : Bool) : Option (Bool) := if a0_0 = a1_0 then ((laws_eqIntS.f k l0_1 l1_1).bind fun t242 => (if t242 = true then (if (a0_2 != a1_2) = true then (some false) else (some true)) else (some false))) else (some false)
set_option maxHeartbeats 8000000 in
set_option maxRecDepth 100000 in
theorem laws_eqChan.calls (k : Nat) (a0_0 : Int) (A0_1 : Option Addr) (c0_1 : Nat) (l0_1 : List Int) (a0_2 : Bool) (a1_0 : Int) (A1_1 : Option Addr) (c1_1 : Nat) (l1_1 : List Int) (a1_2 : Bool) (r : Bool) (w : World) (hr0_1 : Kd.C (Kd.int .i64) w A0_1 l0_1.length l0_1) (hc0_1 : l0_1.length ≤ c0_1) (hr1_1 : Kd.C (Kd.int .i64) w A1_1 l1_1.length l1_1) (hc1_1 : l1_1.length ≤ c1_1) (h : laws_eqChan.f k a0_0 l0_1 a0_2 a1_0 l1_1 a1_2 = some r) :
  Calls Try.prog 49 #[.agg #[.int .i64 a0_0, .slice A0_1 l0_1.length c0_1, .bool a0_2], .agg #[.int .i64 a1_0, .slice A1_1 l1_1.length c1_1, .bool a1_2]] w fun e w' => e = .returned (.bool r) ∧ Below w.heap.size w w' := by
 have hu74 := Try.underlying74
 have HR0_1 := aM_ hr0_1
 have HC0_1 := aM_ hc0_1
 clear hr0_1 hc0_1
 have HR1_1 := aM_ hr1_1
 have HC1_1 := aM_ hc1_1
 clear hr1_1 hc1_1
 have HB := aM_ (Below.refl w.heap.size w)
 have H : (if a0_0 = a1_0 then ((laws_eqIntS.f k l0_1 l1_1).bind fun t242 => (if t242 = true then (if (a0_2 != a1_2) = true then (some false) else (some true)) else (some false))) else (some false)) = some r := h
 clear h
 by_cases c3 : a0_0 = a1_0
 ·rw [if_pos c3] at H
  have c3b0 : (a0_0 == a1_0) = true := beq_iff_eq.mpr c3
  have c3b1 : (a0_0 != a1_0) = false := bne_eq_false_iff_eq.mpr c3
  clear c3
  replace H := Option.bind_eq_some_iff.mp H
  obtain ⟨t242, A40, H⟩ := H
  replace H : (if t242 = true then (if (a0_2 != a1_2) = true then (some false) else (some true)) else (some false)) = some r := H
  have A4 := aM_ A40
  clear A40
  by_cases c5 : t242 = true
  ·subst c5
   have H1 : (if (a0_2 != a1_2) = true then (some false) else (some true)) = some r := by rw [if_pos rfl] at H; exact H
   clear H
   have H := H1
   clear H1
   by_cases c6 : (a0_2 != a1_2) = true
   ·rw [if_pos c6] at H
    have c6b0 : (a0_2 != a1_2) = true := c6
    (try (have c6b1 : decide (a0_2 = a1_2) = false := by simpa using c6))
    (try (have c6b2 : (a0_2 == a1_2) = false := by simpa using c6))
    (try (have c6b3 : ¬ (a0_2 = a1_2) := by simpa using c6))
    clear c6
    obtain rfl := Option.some.inj H
    go_enter Try.func49, Try.ntmps49
    go_wp2_with (first | ((with_reducible refine gate_dst (N := 2) rfl ?_); refine bX_ 2 (cs := #[.int .i64 a0_0, .slice A0_1 l0_1.length c0_1, .bool a0_2]) (t := 74) ?_; intro gb240 hg w7 hbox hb; have n0 := aM_ (sT_ HB.out hb); have n1 := aM_ (hbox); have n2 := aM_ (sZ_ hg HB.out); have n3 := aM_ (sZ_ hg HB.out); clear HB; have HB := n0; have BK240 := n1; have GW240 := n2; have GE240 := n3; clear n0 n1 n2 n3; clear hb hbox hg) | ((with_reducible refine gate_dst (N := 3) rfl ?_); refine bX_ 3 (cs := #[.int .i64 a1_0, .slice A1_1 l1_1.length c1_1, .bool a1_2]) (t := 74) ?_; intro gb241 hg w8 hbox hb; have n0 := aM_ (nB_ BK240.out hb); have n1 := aM_ (sT_ HB.out hb); have n2 := aM_ (hbox); have n3 := aM_ (sZ_ hg HB.out); have n4 := aM_ (sZ_ hg HB.out); have n5 := aM_ (nL_ hg BK240.out); have n6 := aM_ (nG_ hg BK240.out); clear BK240; clear HB; have BK240 := n0; have HB := n1; have BK241 := n2; have GW241 := n3; have GE241 := n4; have NB240_241 := n5; have NB241_240 := n6; clear n0 n1 n2 n3 n4 n5 n6; clear hb hbox hg; have hnb9 := NB240_241.out; have hnc9 := NB241_240.out; obtain ⟨hcz10_0, hcz10_1, hcz10_2, hfz10_0, hfz10_1, hfz10_2⟩ := bR3_ BK240.out; obtain ⟨hcz11_0, hcz11_1, hcz11_2, hfz11_0, hfz11_1, hfz11_2⟩ := bR3_ BK241.out) | ((with_reducible refine gate_callee (f := 33) rfl ?_); refine gL_ (some 14) Try.func33 #[.slice A0_1 l0_1.length c0_1, .slice A1_1 l1_1.length c1_1] ?_; (with_reducible refine (laws_eqIntS.calls k _ _ l0_1 _ _ l1_1 true _ ?side1 ?side2 ?side3 ?side4 A4.out).mono ?_); (case side1 => exact cS_ (Kd.C_below HR0_1.out HB.out)); (case side2 => exact HC0_1.out); (case side3 => exact cS_ (Kd.C_below HR1_1.out HB.out)); (case side4 => exact HC1_1.out); rintro e w' ⟨rfl, ⟨nd, rfl⟩⟩; refine ⟨_, rfl, ?_⟩))
    go_ret
    exact fI_ HB.out
   ·rw [if_neg c6] at H
    have c6b0 : (a0_2 != a1_2) = false := by simpa using c6
    (try (have c6b1 : decide (a0_2 = a1_2) = true := by simpa using c6))
    (try (have c6b2 : (a0_2 == a1_2) = true := by simpa using c6))
    clear c6
    obtain rfl := Option.some.inj H
    go_enter Try.func49, Try.ntmps49
    go_wp2_with (first | ((with_reducible refine gate_dst (N := 2) rfl ?_); refine bX_ 2 (cs := #[.int .i64 a0_0, .slice A0_1 l0_1.length c0_1, .bool a0_2]) (t := 74) ?_; intro gb240 hg w12 hbox hb; have n0 := aM_ (sT_ HB.out hb); have n1 := aM_ (hbox); have n2 := aM_ (sZ_ hg HB.out); have n3 := aM_ (sZ_ hg HB.out); clear HB; have HB := n0; have BK240 := n1; have GW240 := n2; have GE240 := n3; clear n0 n1 n2 n3; clear hb hbox hg) | ((with_reducible refine gate_dst (N := 3) rfl ?_); refine bX_ 3 (cs := #[.int .i64 a1_0, .slice A1_1 l1_1.length c1_1, .bool a1_2]) (t := 74) ?_; intro gb241 hg w13 hbox hb; have n0 := aM_ (nB_ BK240.out hb); have n1 := aM_ (sT_ HB.out hb); have n2 := aM_ (hbox); have n3 := aM_ (sZ_ hg HB.out); have n4 := aM_ (sZ_ hg HB.out); have n5 := aM_ (nL_ hg BK240.out); have n6 := aM_ (nG_ hg BK240.out); clear BK240; clear HB; have BK240 := n0; have HB := n1; have BK241 := n2; have GW241 := n3; have GE241 := n4; have NB240_241 := n5; have NB241_240 := n6; clear n0 n1 n2 n3 n4 n5 n6; clear hb hbox hg; have hnb14 := NB240_241.out; have hnc14 := NB241_240.out; obtain ⟨hcz15_0, hcz15_1, hcz15_2, hfz15_0, hfz15_1, hfz15_2⟩ := bR3_ BK240.out; obtain ⟨hcz16_0, hcz16_1, hcz16_2, hfz16_0, hfz16_1, hfz16_2⟩ := bR3_ BK241.out) | ((with_reducible refine gate_callee (f := 33) rfl ?_); refine gL_ (some 14) Try.func33 #[.slice A0_1 l0_1.length c0_1, .slice A1_1 l1_1.length c1_1] ?_; (with_reducible refine (laws_eqIntS.calls k _ _ l0_1 _ _ l1_1 true _ ?side1 ?side2 ?side3 ?side4 A4.out).mono ?_); (case side1 => exact cS_ (Kd.C_below HR0_1.out HB.out)); (case side2 => exact HC0_1.out); (case side3 => exact cS_ (Kd.C_below HR1_1.out HB.out)); (case side4 => exact HC1_1.out); rintro e w' ⟨rfl, ⟨nd, rfl⟩⟩; refine ⟨_, rfl, ?_⟩))
    go_ret
    exact fI_ HB.out
  ·replace c5 := Bool.eq_false_iff.mpr c5
   subst c5
   have H1 : (some false) = some r := by rw [if_neg (show ¬ (false = true) by decide)] at H; exact H
   clear H
   have H := H1
   clear H1
   obtain rfl := Option.some.inj H
   go_enter Try.func49, Try.ntmps49
   go_wp2_with (first | ((with_reducible refine gate_dst (N := 2) rfl ?_); refine bX_ 2 (cs := #[.int .i64 a0_0, .slice A0_1 l0_1.length c0_1, .bool a0_2]) (t := 74) ?_; intro gb240 hg w17 hbox hb; have n0 := aM_ (sT_ HB.out hb); have n1 := aM_ (hbox); have n2 := aM_ (sZ_ hg HB.out); have n3 := aM_ (sZ_ hg HB.out); clear HB; have HB := n0; have BK240 := n1; have GW240 := n2; have GE240 := n3; clear n0 n1 n2 n3; clear hb hbox hg) | ((with_reducible refine gate_dst (N := 3) rfl ?_); refine bX_ 3 (cs := #[.int .i64 a1_0, .slice A1_1 l1_1.length c1_1, .bool a1_2]) (t := 74) ?_; intro gb241 hg w18 hbox hb; have n0 := aM_ (nB_ BK240.out hb); have n1 := aM_ (sT_ HB.out hb); have n2 := aM_ (hbox); have n3 := aM_ (sZ_ hg HB.out); have n4 := aM_ (sZ_ hg HB.out); have n5 := aM_ (nL_ hg BK240.out); have n6 := aM_ (nG_ hg BK240.out); clear BK240; clear HB; have BK240 := n0; have HB := n1; have BK241 := n2; have GW241 := n3; have GE241 := n4; have NB240_241 := n5; have NB241_240 := n6; clear n0 n1 n2 n3 n4 n5 n6; clear hb hbox hg; have hnb19 := NB240_241.out; have hnc19 := NB241_240.out; obtain ⟨hcz20_0, hcz20_1, hcz20_2, hfz20_0, hfz20_1, hfz20_2⟩ := bR3_ BK240.out; obtain ⟨hcz21_0, hcz21_1, hcz21_2, hfz21_0, hfz21_1, hfz21_2⟩ := bR3_ BK241.out) | ((with_reducible refine gate_callee (f := 33) rfl ?_); refine gL_ (some 14) Try.func33 #[.slice A0_1 l0_1.length c0_1, .slice A1_1 l1_1.length c1_1] ?_; (with_reducible refine (laws_eqIntS.calls k _ _ l0_1 _ _ l1_1 false _ ?side1 ?side2 ?side3 ?side4 A4.out).mono ?_); (case side1 => exact cS_ (Kd.C_below HR0_1.out HB.out)); (case side2 => exact HC0_1.out); (case side3 => exact cS_ (Kd.C_below HR1_1.out HB.out)); (case side4 => exact HC1_1.out); rintro e w' ⟨rfl, ⟨nd, rfl⟩⟩; refine ⟨_, rfl, ?_⟩))
   go_ret
   exact fI_ HB.out
 ·rw [if_neg c3] at H
  have c3b0 : (a0_0 == a1_0) = false := beq_eq_false_iff_ne.mpr c3
  have c3b1 : (a0_0 != a1_0) = true := bne_iff_ne.mpr c3
  obtain rfl := Option.some.inj H
  go_enter Try.func49, Try.ntmps49
  go_wp2_with (first | ((with_reducible refine gate_dst (N := 2) rfl ?_); refine bX_ 2 (cs := #[.int .i64 a0_0, .slice A0_1 l0_1.length c0_1, .bool a0_2]) (t := 74) ?_; intro gb240 hg w22 hbox hb; have n0 := aM_ (sT_ HB.out hb); have n1 := aM_ (hbox); have n2 := aM_ (sZ_ hg HB.out); have n3 := aM_ (sZ_ hg HB.out); clear HB; have HB := n0; have BK240 := n1; have GW240 := n2; have GE240 := n3; clear n0 n1 n2 n3; clear hb hbox hg) | ((with_reducible refine gate_dst (N := 3) rfl ?_); refine bX_ 3 (cs := #[.int .i64 a1_0, .slice A1_1 l1_1.length c1_1, .bool a1_2]) (t := 74) ?_; intro gb241 hg w23 hbox hb; have n0 := aM_ (nB_ BK240.out hb); have n1 := aM_ (sT_ HB.out hb); have n2 := aM_ (hbox); have n3 := aM_ (sZ_ hg HB.out); have n4 := aM_ (sZ_ hg HB.out); have n5 := aM_ (nL_ hg BK240.out); have n6 := aM_ (nG_ hg BK240.out); clear BK240; clear HB; have BK240 := n0; have HB := n1; have BK241 := n2; have GW241 := n3; have GE241 := n4; have NB240_241 := n5; have NB241_240 := n6; clear n0 n1 n2 n3 n4 n5 n6; clear hb hbox hg; have hnb24 := NB240_241.out; have hnc24 := NB241_240.out; obtain ⟨hcz25_0, hcz25_1, hcz25_2, hfz25_0, hfz25_1, hfz25_2⟩ := bR3_ BK240.out; obtain ⟨hcz26_0, hcz26_1, hcz26_2, hfz26_0, hfz26_1, hfz26_2⟩ := bR3_ BK241.out))
  go_ret
  exact fI_ HB.out
end Go.Proofs.Ythbcnakmnbilhaa.PFnExactChanIn
namespace Go.Proofs.Ythbcnakmnbilhaa.Marks
open Go.RowKit Go.Proofs.YthbcnakmnbilhaaW.PrintWords Go.Proofs.YthbcnakmnbilhaaW.PrintLast Go.Proofs.YthbcnakmnbilhaaW.PrintMore
set_option linter.unusedVariables false
def Sc (v v' : Value) : Prop := v' = v ∨ (∃ k n n', v = .int k n ∧ v' = .int k n') ∨ (∃ b b', v = .bool b ∧ v' = .bool b')
theorem Sc.refl (v : Value) : Sc v v := .inl rfl
theorem Sc.trans {a b c : Value} (h : Sc a b) (k : Sc b c) : Sc a c := by
  rcases h with rfl | ⟨_, _, _, rfl, rfl⟩ | ⟨_, _, rfl, rfl⟩
  · exact k
  · rcases k with rfl | ⟨_, _, n', h1, rfl⟩ | ⟨_, _, h1, _⟩
    · exact .inr (.inl ⟨_, _, _, rfl, rfl⟩)
    · cases h1
      exact .inr (.inl ⟨_, _, _, rfl, rfl⟩)
    · cases h1
  · rcases k with rfl | ⟨_, _, _, h1, _⟩ | ⟨_, b', h1, rfl⟩
    · exact .inr (.inr ⟨_, _, rfl, rfl⟩)
    · cases h1
    · exact .inr (.inr ⟨_, _, rfl, rfl⟩)
def Mk (P : Nat → Prop) (w w' : World) : Prop := Kept w w' P ∧ Below 0 w w' ∧ ∀ (g : Nat) (cs : Array Value) (t : TypeId), w.heap[g]? = some (.cells cs t (0, 0)) → ∃ cs' : Array Value, w'.heap[g]? = some (.cells cs' t (0, 0)) ∧ ∀ (j : Nat) v, cs[j]? = some v → ∃ v', cs'[j]? = some v' ∧ Sc v v'
section
variable {P P' : Nat → Prop} {w w' w1 W : World}
theorem Mk.refl (P : Nat → Prop) (w : World) : Mk P w w := ⟨Kept.refl w P, Below.refl _ _, fun g cs t h => ⟨cs, h, fun j v hj => ⟨v, hj, Sc.refl v⟩⟩⟩
theorem Mk.trans (h : Mk P w w1) (k : Mk P w1 w') : Mk P w w' := by
  refine ⟨h.1.then_ k.1 (fun _ h2 => .inl h2), h.2.1.trans k.2.1, fun g cs t hg => ?_⟩
  obtain ⟨cs1, h1, e1⟩ := h.2.2 g cs t hg
  obtain ⟨cs2, h2, e2⟩ := k.2.2 g cs1 t h1
  refine ⟨cs2, h2, fun j v hj => ?_⟩
  obtain ⟨v1, hv1, s1⟩ := e1 j v hj
  obtain ⟨v2, hv2, s2⟩ := e2 j v1 hv1
  exact ⟨v2, hv2, s1.trans s2⟩
theorem Mk.mono (h : Mk P w w') (hp : ∀ k, P k → P' k) : Mk P' w w' := ⟨h.1.mono hp, h.2⟩
theorem Mk.drewN (h : Mk P w W) (n : Nat) : Mk P w (W.drewN n) := ⟨h.1, pw_below_drewN h.2.1 n, h.2.2⟩
theorem Mk.drew (h : Mk P w W) : Mk P w W.drew := ⟨h.1, below_drew h.2.1, h.2.2⟩
theorem Mk.below (h : Mk P w w') {B : Nat} (hB : B ≤ w.heap.size) (hP : ∀ k, P k → B ≤ k) : Below B w w' := ⟨h.2.1.os, h.2.1.tape, h.2.1.output, h.2.1.size, fun k hk => h.1.2 k (Nat.lt_of_lt_of_le hk hB) (fun hp => by have := hP k hp; omega)⟩
theorem below_set0 (W : World) (a : Addr) (u : Value) : Below 0 W (W.setCell a u) := ⟨rfl, rfl, rfl, by simp [World.setCell], fun k hk => by omega⟩
theorem Mk.of_below (hb : Below w.heap.size w w') : Mk P w w' := ⟨Kept.of_below hb P, hb.mono (Nat.zero_le _), fun g cs t hg => ⟨cs, (hb.block g (blk_lt hg)).trans hg, fun j v hj => ⟨v, hj, Sc.refl v⟩⟩⟩
theorem Mk.set (h : Mk P w W) {g o : Nat} (hP : P g) {v u : Value} (hc : W.cell? ⟨g, o, none⟩ = some v) (hs : Sc v u) : Mk P w (W.setCell ⟨g, o, none⟩ u) := by
  refine ⟨h.1.setCell (.inl hP) u, h.2.1.trans (below_set0 _ _ _), fun g' cs t hg => ?_⟩
  obtain ⟨cs1, h1, e1⟩ := h.2.2 g' cs t hg
  by_cases e : g' = g
  · subst e
    refine ⟨_, blk_set h1 o u, fun j v0 hj => ?_⟩
    obtain ⟨v1, hv1, s1⟩ := e1 j v0 hj
    by_cases ej : j = o
    · subst ej
      have hv : v1 = v := Option.some.inj (hv1.symm.trans ((blk_cell h1 j).symm.trans hc))
      subst hv
      have hlt : j < cs1.size := (Array.getElem?_eq_some_iff.1 hv1).1
      exact ⟨u, by rw [Array.getElem?_setIfInBounds_self]; simp [hlt], s1.trans hs⟩
    · exact ⟨v1, by rw [Array.getElem?_setIfInBounds_ne (Ne.symm ej)]; exact hv1, s1⟩
  · exact ⟨cs1, (Below.heap_setCell W ⟨g, o, none⟩ u g' e).trans h1, e1⟩
end
def IntAt (w : World) (g o : Nat) : Prop := ∃ (cs : Array Value) (t : TypeId) (n : Int), w.heap[g]? = some (.cells cs t (0, 0)) ∧ cs[o]? = some (.int .i64 n)
def BoolAt (w : World) (g o : Nat) : Prop := ∃ (cs : Array Value) (t : TypeId) (b : Bool), w.heap[g]? = some (.cells cs t (0, 0)) ∧ cs[o]? = some (.bool b)
def SlAt (w : World) (g o : Nat) (A : Option Addr) (n c : Nat) : Prop := ∃ (cs : Array Value) (t : TypeId), w.heap[g]? = some (.cells cs t (0, 0)) ∧ cs[o]? = some (.slice A n c)
section
variable {P : Nat → Prop} {w w' : World} {g o n c : Nat} {A : Option Addr}
theorem IntAt.mk (h : IntAt w g o) (k : Mk P w w') : IntAt w' g o := by
  obtain ⟨cs, t, n, h1, h2⟩ := h
  obtain ⟨cs', h3, e⟩ := k.2.2 g cs t h1
  obtain ⟨v', h4, s⟩ := e o _ h2
  rcases s with rfl | ⟨_, _, n', h5, rfl⟩ | ⟨_, _, h5, _⟩
  · exact ⟨cs', t, n, h3, h4⟩
  · cases h5
    exact ⟨cs', t, n', h3, h4⟩
  · cases h5
theorem BoolAt.mk (h : BoolAt w g o) (k : Mk P w w') : BoolAt w' g o := by
  obtain ⟨cs, t, n, h1, h2⟩ := h
  obtain ⟨cs', h3, e⟩ := k.2.2 g cs t h1
  obtain ⟨v', h4, s⟩ := e o _ h2
  rcases s with rfl | ⟨_, _, n', h5, rfl⟩ | ⟨_, b', h5, rfl⟩
  · exact ⟨cs', t, n, h3, h4⟩
  · cases h5
  · exact ⟨cs', t, b', h3, h4⟩
theorem SlAt.mk (h : SlAt w g o A n c) (k : Mk P w w') : SlAt w' g o A n c := by
  obtain ⟨cs, t, h1, h2⟩ := h
  obtain ⟨cs', h3, e⟩ := k.2.2 g cs t h1
  obtain ⟨v', h4, s⟩ := e o _ h2
  rcases s with rfl | ⟨_, _, n', h5, rfl⟩ | ⟨_, b', h5, rfl⟩
  · exact ⟨cs', t, h3, h4⟩
  · cases h5
  · cases h5
theorem IntAt.cell (h : IntAt w g o) : ∃ n, w.cell? ⟨g, o, none⟩ = some (.int .i64 n) ∧ w.frozen? ⟨g, o, none⟩ = false := by
  obtain ⟨cs, t, n, h1, h2⟩ := h
  exact ⟨n, (blk_cell h1 o).trans h2, blk_frozen h1 o⟩
theorem BoolAt.cell (h : BoolAt w g o) : ∃ n, w.cell? ⟨g, o, none⟩ = some (.bool n) ∧ w.frozen? ⟨g, o, none⟩ = false := by
  obtain ⟨cs, t, n, h1, h2⟩ := h
  exact ⟨n, (blk_cell h1 o).trans h2, blk_frozen h1 o⟩
theorem SlAt.cell (h : SlAt w g o A n c) : w.cell? ⟨g, o, none⟩ = some (.slice A n c) := by
  obtain ⟨cs, t, h1, h2⟩ := h
  exact (blk_cell h1 o).trans h2
end
abbrev Cel := Nat × Nat × Bool
def cellv (b : Bool) (k : Int) : Value := if b = true then .bool (decide (Int.tmod k 3 = 0)) else .int .i64 k
def writes : World → List Cel → Int → World
  | w, [], _ => w
  | w, c :: L, k => writes (w.setCell ⟨c.1, c.2.1, none⟩ (cellv c.2.2 k)) L (k + 1)
theorem writes_append : ∀ (L M : List Cel) (w : World) (k : Int), writes w (L ++ M) k = writes (writes w L k) M (k + L.length)
  | [], M, w, k => by simp [writes]
  | c :: L, M, w, k => by
    rw [List.cons_append, writes, writes, writes_append L M, List.length_cons]
    congr 1
    omega
theorem drewN_set (w : World) (n : Nat) (a : Addr) (v : Value) : (w.drewN n).setCell a v = (w.setCell a v).drewN n := rfl
theorem writes_drewN : ∀ (L : List Cel) (w : World) (n : Nat) (k : Int), writes (w.drewN n) L k = (writes w L k).drewN n
  | [], w, n, k => rfl
  | c :: L, w, n, k => by
    rw [writes, writes, drewN_set, writes_drewN L]
def Wr (w : World) (L : List Cel) (k : Int) (w' : World) : Prop := ∃ n, w' = (writes w L k).drewN n
section
variable {w w' w1 w2 : World} {L M : List Cel} {k k2 : Int}
theorem Wr.refl (w : World) (k : Int) : Wr w [] k w := ⟨0, rfl⟩
theorem Wr.drewN (h : Wr w L k w') (n : Nat) : Wr w L k (w'.drewN n) := by
  obtain ⟨m, rfl⟩ := h
  exact ⟨m + n, World.drewN_drewN ..⟩
theorem Wr.trans (h : Wr w L k w1) (h2 : Wr w1 M k2 w2) (e : k2 = k + L.length) : Wr w (L ++ M) k w2 := by
  obtain ⟨m, rfl⟩ := h
  obtain ⟨n, rfl⟩ := h2
  subst e
  rw [writes_drewN, ← writes_append]
  exact ⟨m + n, World.drewN_drewN ..⟩
theorem Wr.set (h : Wr w L k w') {g o : Nat} (b : Bool) {v : Value} (e : v = cellv b (k + L.length)) : Wr w (L ++ [(g, o, b)]) k (w'.setCell ⟨g, o, none⟩ v) :=
  h.trans (k2 := k + L.length) (M := [(g, o, b)]) ⟨0, by subst e; rfl⟩ rfl
theorem Wr.cast (h : Wr w L k w') (e : L = M) : Wr w M k w' := e ▸ h
end
inductive Ty where
  | int | bool | pair (a b : Ty) | sl (a : Ty)
def Ty.sz : Ty → Nat
  | .int => 1
  | .bool => 1
  | .sl _ => 1
  | .pair a b => a.sz + b.sz
def cat (Ls : Nat → List Cel) (n : Nat) : List Cel := (List.range n).flatMap Ls
theorem cat_succ (Ls : Nat → List Cel) (n : Nat) : cat Ls (n + 1) = cat Ls n ++ Ls n := by simp [cat, List.range_succ]
theorem cat_le (Ls : Nat → List Cel) {j n : Nat} (h : j < n) : (cat Ls j).length + (Ls j).length ≤ (cat Ls n).length := by
  have h1 : ∀ d, (cat Ls (j + 1)).length ≤ (cat Ls (j + 1 + d)).length := by
    intro d
    induction d with
    | zero => exact Nat.le_refl _
    | succ d ih => rw [← Nat.add_assoc, cat_succ Ls (j + 1 + d), List.length_append]; omega
  have h2 := h1 (n - (j + 1))
  rw [show j + 1 + (n - (j + 1)) = n by omega, cat_succ, List.length_append] at h2
  exact h2
def Vis (P : Nat → Prop) (w : World) : Ty → Nat → Nat → List Cel → Prop
  | .int, g, o, L => L = [(g, o, false)] ∧ IntAt w g o
  | .bool, g, o, L => L = [(g, o, true)] ∧ BoolAt w g o
  | .pair a b, g, o, L => ∃ L1 L2, L = L1 ++ L2 ∧ Vis P w a g o L1 ∧ Vis P w b g (o + a.sz) L2
  | .sl a, g, o, L => ∃ A n c, SlAt w g o A n c ∧ n ≤ 9223372036854775807 ∧ ∃ Ls, L = cat Ls n ∧ (0 < n → ∃ g', A = some ⟨g', 0, none⟩ ∧ P g' ∧ ∀ i, i < n → Vis P w a g' (i * a.sz) (Ls i))
def RowV (P : Nat → Prop) (w : World) (a : Ty) (A : Option Addr) (n : Nat) (L : List Cel) : Prop := n ≤ 9223372036854775807 ∧ ∃ Ls, L = cat Ls n ∧ (0 < n → ∃ g', A = some ⟨g', 0, none⟩ ∧ P g' ∧ ∀ i, i < n → Vis P w a g' (i * a.sz) (Ls i))
theorem Vis.mk {P Q : Nat → Prop} {w w' : World} (k : Mk Q w w') : ∀ {t : Ty} {g o : Nat} {L : List Cel}, Vis P w t g o L → Vis P w' t g o L
  | .int, g, o, L, h => ⟨h.1, h.2.mk k⟩
  | .bool, g, o, L, h => ⟨h.1, h.2.mk k⟩
  | .pair a b, g, o, L, ⟨L1, L2, e, h1, h2⟩ => ⟨L1, L2, e, Vis.mk k h1, Vis.mk k h2⟩
  | .sl a, g, o, L, ⟨A, n, c, hs, hb, Ls, e, h⟩ => ⟨A, n, c, hs.mk k, hb, Ls, e, fun hn => by
    obtain ⟨g', e', hp, hi⟩ := h hn
    exact ⟨g', e', hp, fun i hl => Vis.mk k (hi i hl)⟩⟩
theorem RowV.mk {P Q : Nat → Prop} {w w' : World} (k : Mk Q w w') {t : Ty} {A : Option Addr} {n : Nat} {L : List Cel} (h : RowV P w t A n L) : RowV P w' t A n L := by
  obtain ⟨hb, Ls, e, h⟩ := h
  exact ⟨hb, Ls, e, fun hn => by
    obtain ⟨g', e', hp, hi⟩ := h hn
    exact ⟨g', e', hp, fun i hl => Vis.mk k (hi i hl)⟩⟩
def HeldAt (w : World) (L : List Cel) (k : Int) : Prop := ∀ (j : Nat) (c : Cel), L[j]? = some c → w.cell? ⟨c.1, c.2.1, none⟩ = some (cellv c.2.2 (k + j))
section
variable {w w' : World} {L M : List Cel} {k : Int}
theorem HeldAt.left (h : HeldAt w (L ++ M) k) : HeldAt w L k := fun j c hj => h j c (by rw [List.getElem?_append_left (List.getElem?_eq_some_iff.1 hj).1]; exact hj)
theorem HeldAt.right (h : HeldAt w (L ++ M) k) : HeldAt w M (k + L.length) := fun j c hj => by
  have := h (L.length + j) c (by rw [List.getElem?_append_right (by omega), Nat.add_sub_cancel_left]; exact hj)
  rw [this]
  congr 2
  push_cast
  omega
theorem HeldAt.one {g o : Nat} {b : Bool} (h : HeldAt w [(g, o, b)] k) : w.cell? ⟨g, o, none⟩ = some (cellv b k) := by
  have := h 0 (g, o, b) rfl
  simpa using this
theorem HeldAt.cat {Ls : Nat → List Cel} {n j : Nat} (h : HeldAt w (cat Ls n) k) (hj : j < n) : HeldAt w (Ls j) (k + (Marks.cat Ls j).length) := by
  have e : ∃ T, Marks.cat Ls n = Marks.cat Ls j ++ (Ls j ++ T) := by
    have h1 : ∀ d, ∃ T, Marks.cat Ls (j + 1 + d) = Marks.cat Ls (j + 1) ++ T := by
      intro d
      induction d with
      | zero => exact ⟨[], by simp⟩
      | succ d ih =>
        obtain ⟨T, e⟩ := ih
        exact ⟨T ++ Ls (j + 1 + d), by rw [← Nat.add_assoc, cat_succ Ls (j + 1 + d), e, List.append_assoc]⟩
    obtain ⟨T, e⟩ := h1 (n - (j + 1))
    rw [show j + 1 + (n - (j + 1)) = n by omega, cat_succ, List.append_assoc] at e
    exact ⟨T, e⟩
  obtain ⟨T, e⟩ := e
  rw [e] at h
  exact h.right.left
end
theorem RowV.drewN {P : Nat → Prop} {w : World} {t : Ty} {A : Option Addr} {n : Nat} {L : List Cel} (h : RowV P w t A n L) (m : Nat) : RowV P (w.drewN m) t A n L := RowV.mk (Q := fun _ => False) ((Mk.refl _ w).drewN m) h
theorem HeldAt.drewN {w : World} {L : List Cel} {k : Int} (h : HeldAt w L k) (m : Nat) : HeldAt (w.drewN m) L k := h
theorem wrap_in {n : Int} (h0 : -9223372036854775808 ≤ n) (h1 : n ≤ 9223372036854775807) : wrap64 n = n := by
  unfold wrap64
  omega
end Go.Proofs.Ythbcnakmnbilhaa.Marks
namespace Go.Proofs.Ythbcnakmnbilhaa.Marks
open Go.RowKit Go.Proofs.YthbcnakmnbilhaaW.PrintWords Go.Proofs.YthbcnakmnbilhaaW.PrintLast Go.Proofs.YthbcnakmnbilhaaW.PrintMore
set_option linter.unusedVariables false
set_option linter.unusedSimpArgs false
set_option maxHeartbeats 8000000 in
set_option maxRecDepth 100000 in
theorem wr_markIntS (P : Nat → Prop) (w : World) (A : Option Addr) (n c : Nat) (k : Int) (L : List Cel) (h : RowV P w .int A n L) (h0 : 0 ≤ k) (hk : k + (L.length : Int) ≤ 4611686018427387904) :
    Calls Try.prog 34 #[.slice A n c, .int .i64 k] w fun e w' => e = .returned (.int .i64 (k + (L.length : Int))) ∧ Mk P w w' ∧ Wr w L k w' := by
  obtain ⟨hn, Ls, rfl, h⟩ := h
  go_enter Try.func34, Try.ntmps34
  go_wp2
  go_loopg [1, 5] n (fun kq v1 v5 w' => ∃ (x1 x5 : Int), v1 = .int .i64 x1 ∧ v5 = .int .i64 x5 ∧ Aside0 (0 ≤ x5 ∧ x5 + (kq : Int) = (n : Int) ∧ x1 = k + ((cat Ls x5.toNat).length : Int)) ∧ Aside0 (Mk P w w') ∧ Aside0 (Wr w (cat Ls x5.toNat) k w'))
  case atStart => exact ⟨k, 0, rfl, rfl, ⟨by simp [cat]⟩, ⟨Mk.refl P w⟩, ⟨Wr.refl w k⟩⟩
  case round =>
    obtain ⟨x1, x5, rfl, rfl, HJ, HM0, HW0⟩ := hrel
    obtain ⟨j0, j1, jx⟩ := HJ.out
    by_cases c3 : x5 < (n : Int)
    · have c3b0 : decide (x5 < (n : Int)) = true := decide_eq_true c3
      obtain ⟨g, rfl, hp, hi⟩ := h (by omega)
      have cl := cat_le Ls (j := x5.toNat) (n := n) (by omega)
      have cs_ := cat_succ Ls x5.toNat
      have hv := hi x5.toNat (by omega)
      generalize hLs : Ls x5.toNat = E at cl cs_ hv
      obtain ⟨e0, i0⟩ := hv
      have i0 : IntAt w g (x5.toNat) := (by first | simpa using i0 | (simp [Ty.sz] at i0; exact i0) | exact i0)
      have hE : E = [(g, x5.toNat, false)] := by
        skip; (try rw [e0]); (try first | rfl | simp [Ty.sz])
      have hEl : E.length = 1 := by rw [hE]; (try simp only [List.length_append, List.length_cons, List.length_nil, Nat.zero_add])
      have p5 : (0 ≤ x5) = True := eq_true j0
      have q5 : (x5 < (n : Int)) = True := eq_true c3
      rw [hEl] at cl
      have e5 : wrap64 (x5 + 1) = x5 + 1 := wrap_in (by omega) (by omega)
      have HE5 := Aside0.mk e5
      have HC0 : Aside0 (x1 = k + ((cat Ls x5.toNat).length : Int)) := ⟨jx⟩
      have HCL := Aside0.mk cl
      obtain ⟨m0, hx0, hf0⟩ := (i0.mk HM0.out).cell
      have HM1 := Aside0.mk (HM0.out.set (u := .int .i64 (x1)) hp hx0 (.inr (.inl ⟨_, _, _, rfl, rfl⟩)))
      have HW1 := Aside0.mk (HW0.out.set (g := g) (o := x5.toNat) false (v := .int .i64 (x1)) (by rw [HC0.out]; rfl))
      have HC1 : Aside0 (wrap64 (x1 + 1) = k + ((cat Ls x5.toNat ++ [(g, x5.toNat, false)]).length : Int)) := ⟨by have h1_ := HC0.out; have h2_ := HCL.out; rw [List.length_append, List.length_singleton]; rw [wrap_in (n := x1 + 1)] <;> (push_cast; (try simp only [List.length_append, List.length_cons, List.length_nil, Nat.zero_add] at h1_); (try simp only [List.length_append, List.length_cons, List.length_nil, Nat.zero_add] at h2_); (try simp only [List.length_append, List.length_cons, List.length_nil, Nat.zero_add]); omega)⟩
      clear HJ jx cl hEl e5
      go_wp2
      go_roundg (n - x5.toNat - 1)
      case measure => omega
      case rel => exact ⟨_, _, rfl, rfl, ⟨by have h1_ := HC1.out; have h5_ := HE5.out; refine ⟨by omega, by omega, ?_⟩; rw [h1_]; (try rw [h5_]); rw [show (x5 + 1).toNat = x5.toNat + 1 by omega, cs_, hE]; (try simp only [List.append_assoc])⟩, HM1, ⟨HW1.out.cast (by (try rw [HE5.out]); rw [show (x5 + 1).toNat = x5.toNat + 1 by omega, cs_, hE]; (try simp only [List.append_assoc]))⟩⟩
    · have c3b0 : decide (x5 < (n : Int)) = false := decide_eq_false c3
      have hx1 : x5.toNat = n := by omega
      rw [hx1] at jx HW0
      subst jx
      go_wp2
      go_ret
      exact ⟨rfl, HM0.out, HW0.out⟩
set_option maxHeartbeats 8000000 in
set_option maxRecDepth 100000 in
theorem hd_heldIntS (P : Nat → Prop) (w : World) (A : Option Addr) (n c : Nat) (k : Int) (L : List Cel) (h : RowV P w .int A n L) (hv : HeldAt w L k) (h0 : 0 ≤ k) (hk : k + (L.length : Int) ≤ 4611686018427387904) :
    Calls Try.prog 35 #[.slice A n c, .int .i64 k] w fun e w' => e = .returned (.int .i64 (k + (L.length : Int))) ∧ Drawn0 w w' := by
  obtain ⟨hn, Ls, rfl, h⟩ := h
  have HV := Aside0.mk hv
  clear hv
  go_enter Try.func35, Try.ntmps35
  go_wp2
  go_loopg [1, 5] n (fun kq v1 v5 w' => ∃ (x1 x5 : Int), v1 = .int .i64 x1 ∧ v5 = .int .i64 x5 ∧ Aside0 (0 ≤ x5 ∧ x5 + (kq : Int) = (n : Int) ∧ x1 = k + ((cat Ls x5.toNat).length : Int)) ∧ Drawn0 w w')
  case atStart => exact ⟨k, 0, rfl, rfl, ⟨by simp [cat]⟩, by repeat (first | exact Drawn0.refl _ | apply Drawn0.step)⟩
  case round =>
    obtain ⟨x1, x5, rfl, rfl, HJ, ⟨m1, rfl⟩⟩ := hrel
    obtain ⟨j0, j1, jx⟩ := HJ.out
    by_cases c3 : x5 < (n : Int)
    · have c3b0 : decide (x5 < (n : Int)) = true := decide_eq_true c3
      obtain ⟨g, rfl, hp, hi⟩ := h (by omega)
      have cl := cat_le Ls (j := x5.toNat) (n := n) (by omega)
      have cs_ := cat_succ Ls x5.toNat
      have hv := hi x5.toNat (by omega)
      have HE_ := Aside0.mk (HV.out.cat (j := x5.toNat) (by omega))
      generalize hLs : Ls x5.toNat = E at cl cs_ hv HE_
      obtain ⟨e0, -⟩ := hv
      have hE : E = [(g, x5.toNat, false)] := by
        skip; (try rw [e0]); (try first | rfl | simp [Ty.sz])
      have hEl : E.length = 1 := by rw [hE]; (try simp only [List.length_append, List.length_cons, List.length_nil, Nat.zero_add]); (try omega)
      have p5 : (0 ≤ x5) = True := eq_true j0
      have q5 : (x5 < (n : Int)) = True := eq_true c3
      rw [hEl] at cl
      rw [hE] at HE_
      have e5 : wrap64 (x5 + 1) = x5 + 1 := wrap_in (by omega) (by omega)
      have HE5 := Aside0.mk e5
      have HCL := Aside0.mk cl
      have HC0 : Aside0 (x1 = k + ((cat Ls x5.toNat).length : Int)) := ⟨jx⟩
      have hx0 : w.cell? ⟨g, x5.toNat, none⟩ = some (.int .i64 (x1)) := by rw [HeldAt.one (HE_.out), ← HC0.out]; rfl
      have HC1 : Aside0 (wrap64 (x1 + 1) = k + ((cat Ls x5.toNat).length : Int) + (([(g, x5.toNat, false)] : List Cel).length : Int)) := ⟨by have h1_ := HC0.out; have h2_ := HCL.out; (try simp only [List.length_singleton] at h1_); simp only [List.length_singleton]; rw [wrap_in (n := x1 + 1)] <;> ((try push_cast at h1_); (try push_cast); omega)⟩
      clear HJ jx cl hEl e5 HE_
      go_wp2
      go_roundg (n - x5.toNat - 1)
      case measure => omega
      case rel => exact ⟨_, _, rfl, rfl, ⟨by have h1_ := HC1.out; have h5_ := HE5.out; refine ⟨by omega, by omega, ?_⟩; rw [h1_]; (try rw [h5_]); rw [show (x5 + 1).toNat = x5.toNat + 1 by omega, cs_, hE]; (try simp only [List.length_singleton]); (try simp only [List.length_append, List.length_cons, List.length_nil, Nat.zero_add]); push_cast; omega⟩, by repeat (first | exact Drawn0.refl _ | apply Drawn0.step)⟩
    · have c3b0 : decide (x5 < (n : Int)) = false := decide_eq_false c3
      have hx1 : x5.toNat = n := by omega
      rw [hx1] at jx
      subst jx
      go_wp2
      go_ret
      exact ⟨rfl, by repeat (first | exact Drawn0.refl _ | apply Drawn0.step)⟩
set_option maxHeartbeats 8000000 in
set_option maxRecDepth 100000 in
theorem wr_markWriteS (P : Nat → Prop) (w : World) (A : Option Addr) (n c : Nat) (k : Int) (L : List Cel) (h : RowV P w (.pair .int (.sl .int)) A n L) (h0 : 0 ≤ k) (hk : k + (L.length : Int) ≤ 4611686018427387904) :
    Calls Try.prog 92 #[.slice A n c, .int .i64 k] w fun e w' => e = .returned (.int .i64 (k + (L.length : Int))) ∧ Mk P w w' ∧ Wr w L k w' := by
  obtain ⟨hn, Ls, rfl, h⟩ := h
  go_enter Try.func92, Try.ntmps92
  go_wp2
  go_loopg [1, 5] n (fun kq v1 v5 w' => ∃ (x1 x5 : Int), v1 = .int .i64 x1 ∧ v5 = .int .i64 x5 ∧ Aside0 (0 ≤ x5 ∧ x5 + (kq : Int) = (n : Int) ∧ x1 = k + ((cat Ls x5.toNat).length : Int)) ∧ Aside0 (Mk P w w') ∧ Aside0 (Wr w (cat Ls x5.toNat) k w'))
  case atStart => exact ⟨k, 0, rfl, rfl, ⟨by simp [cat]⟩, ⟨Mk.refl P w⟩, ⟨Wr.refl w k⟩⟩
  case round =>
    obtain ⟨x1, x5, rfl, rfl, HJ, HM0, HW0⟩ := hrel
    obtain ⟨j0, j1, jx⟩ := HJ.out
    by_cases c3 : x5 < (n : Int)
    · have c3b0 : decide (x5 < (n : Int)) = true := decide_eq_true c3
      obtain ⟨g, rfl, hp, hi⟩ := h (by omega)
      have cl := cat_le Ls (j := x5.toNat) (n := n) (by omega)
      have cs_ := cat_succ Ls x5.toNat
      have hv := hi x5.toNat (by omega)
      generalize hLs : Ls x5.toNat = E at cl cs_ hv
      obtain ⟨E0, D0, eE0, v0, r0⟩ := hv
      obtain ⟨e0, i0⟩ := v0
      have i0 : IntAt w g (x5.toNat * 2) := (by first | simpa using i0 | (simp [Ty.sz] at i0; exact i0) | exact i0)
      obtain ⟨B1, n1, c1, s1, V1⟩ := r0
      have s1 : SlAt w g (x5.toNat * 2 + 1) B1 n1 c1 := (by first | simpa using s1 | (simp [Ty.sz] at s1; exact s1) | exact s1)
      have V1 : ∃ M, D0 = M ∧ RowV P w .int B1 n1 M := ⟨_, rfl, V1⟩
      obtain ⟨M1, eM1, V1⟩ := V1
      have hE : E = [(g, x5.toNat * 2, false)] ++ M1 := by
        rw [eE0]; skip; (try rw [e0]); (try rw [eM1]); (try first | rfl | simp [Ty.sz])
      have hEl : E.length = 1 + M1.length := by rw [hE]; (try simp only [List.length_append, List.length_cons, List.length_nil, Nat.zero_add])
      have p5 : (0 ≤ x5) = True := eq_true j0
      have q5 : (x5 < (n : Int)) = True := eq_true c3
      rw [hEl] at cl
      have e5 : wrap64 (x5 + 1) = x5 + 1 := wrap_in (by omega) (by omega)
      have HE5 := Aside0.mk e5
      have HC0 : Aside0 (x1 = k + ((cat Ls x5.toNat).length : Int)) := ⟨jx⟩
      have HCL := Aside0.mk cl
      obtain ⟨m0, hx0, hf0⟩ := (i0.mk HM0.out).cell
      have HM1 := Aside0.mk (HM0.out.set (u := .int .i64 (x1)) hp hx0 (.inr (.inl ⟨_, _, _, rfl, rfl⟩)))
      have HW1 := Aside0.mk (HW0.out.set (g := g) (o := x5.toNat * 2) false (v := .int .i64 (x1)) (by rw [HC0.out]; rfl))
      have HC1 : Aside0 (wrap64 (x1 + 1) = k + ((cat Ls x5.toNat ++ [(g, x5.toNat * 2, false)]).length : Int)) := ⟨by have h1_ := HC0.out; have h2_ := HCL.out; rw [List.length_append, List.length_singleton]; rw [wrap_in (n := x1 + 1)] <;> (push_cast; (try simp only [List.length_append, List.length_cons, List.length_nil, Nat.zero_add] at h1_); (try simp only [List.length_append, List.length_cons, List.length_nil, Nat.zero_add] at h2_); (try simp only [List.length_append, List.length_cons, List.length_nil, Nat.zero_add]); omega)⟩
      have hs1 := (s1.mk HM1.out).cell
      have hV1 := Aside0.mk (V1.mk HM1.out)
      have HH1 : Aside0 (0 ≤ wrap64 (x1 + 1) ∧ wrap64 (x1 + 1) + (M1.length : Int) ≤ 4611686018427387904) := ⟨by have h1_ := HC1.out; have h2_ := HCL.out; (try simp only [List.length_append, List.length_cons, List.length_nil, Nat.zero_add] at h1_); (try simp only [List.length_append, List.length_cons, List.length_nil, Nat.zero_add] at h2_); omega⟩
      clear HJ jx cl hEl e5
      go_wp2_with (first | ((with_reducible refine gate_callee (f := 34) rfl ?_); refine goesL_ (some 25) rfl rfl Try.func34 (by kernel_rfl) rfl #[.slice B1 n1 c1, .int .i64 (wrap64 (x1 + 1))] rfl (by (try simp only [List.map_toArray, List.map_cons, List.map_nil]); first | done | rfl | (simp; done)) ?_; refine (wr_markIntS P _ B1 n1 c1 (wrap64 (x1 + 1)) M1 hV1.out HH1.out.1 HH1.out.2).mono ?_; rintro e w3 ⟨rfl, hm, hw⟩; refine ⟨_, rfl, ?_⟩; have HM2 := Aside0.mk (HM1.out.trans hm); have HW2 := Aside0.mk (HW1.out.trans hw HC1.out); clear hm hw; have HC2 : Aside0 (wrap64 (x1 + 1) + (M1.length : Int) = k + ((cat Ls x5.toNat ++ [(g, x5.toNat * 2, false)] ++ M1).length : Int)) := ⟨by have h1_ := HC1.out; rw [List.length_append]; push_cast; omega⟩))
      go_roundg (n - x5.toNat - 1)
      case measure => omega
      case rel => exact ⟨_, _, rfl, rfl, ⟨by have h1_ := HC2.out; have h5_ := HE5.out; refine ⟨by omega, by omega, ?_⟩; rw [h1_]; (try rw [h5_]); rw [show (x5 + 1).toNat = x5.toNat + 1 by omega, cs_, hE]; (try simp only [List.append_assoc])⟩, HM2, ⟨HW2.out.cast (by (try rw [HE5.out]); rw [show (x5 + 1).toNat = x5.toNat + 1 by omega, cs_, hE]; (try simp only [List.append_assoc]))⟩⟩
    · have c3b0 : decide (x5 < (n : Int)) = false := decide_eq_false c3
      have hx1 : x5.toNat = n := by omega
      rw [hx1] at jx HW0
      subst jx
      go_wp2
      go_ret
      exact ⟨rfl, HM0.out, HW0.out⟩
set_option maxHeartbeats 8000000 in
set_option maxRecDepth 100000 in
theorem wr_markWriteSS (P : Nat → Prop) (w : World) (A : Option Addr) (n c : Nat) (k : Int) (L : List Cel) (h : RowV P w (.sl (.pair .int (.sl .int))) A n L) (h0 : 0 ≤ k) (hk : k + (L.length : Int) ≤ 4611686018427387904) :
    Calls Try.prog 53 #[.slice A n c, .int .i64 k] w fun e w' => e = .returned (.int .i64 (k + (L.length : Int))) ∧ Mk P w w' ∧ Wr w L k w' := by
  obtain ⟨hn, Ls, rfl, h⟩ := h
  go_enter Try.func53, Try.ntmps53
  go_wp2
  go_loopg [1, 5] n (fun kq v1 v5 w' => ∃ (x1 x5 : Int), v1 = .int .i64 x1 ∧ v5 = .int .i64 x5 ∧ Aside0 (0 ≤ x5 ∧ x5 + (kq : Int) = (n : Int) ∧ x1 = k + ((cat Ls x5.toNat).length : Int)) ∧ Aside0 (Mk P w w') ∧ Aside0 (Wr w (cat Ls x5.toNat) k w'))
  case atStart => exact ⟨k, 0, rfl, rfl, ⟨by simp [cat]⟩, ⟨Mk.refl P w⟩, ⟨Wr.refl w k⟩⟩
  case round =>
    obtain ⟨x1, x5, rfl, rfl, HJ, HM0, HW0⟩ := hrel
    obtain ⟨j0, j1, jx⟩ := HJ.out
    by_cases c3 : x5 < (n : Int)
    · have c3b0 : decide (x5 < (n : Int)) = true := decide_eq_true c3
      obtain ⟨g, rfl, hp, hi⟩ := h (by omega)
      have cl := cat_le Ls (j := x5.toNat) (n := n) (by omega)
      have cs_ := cat_succ Ls x5.toNat
      have hv := hi x5.toNat (by omega)
      generalize hLs : Ls x5.toNat = E at cl cs_ hv
      obtain ⟨B0, n0, c0, s0, V0⟩ := hv
      have s0 : SlAt w g (x5.toNat) B0 n0 c0 := (by first | simpa using s0 | (simp [Ty.sz] at s0; exact s0) | exact s0)
      have V0 : ∃ M, E = M ∧ RowV P w (.pair .int (.sl .int)) B0 n0 M := ⟨_, rfl, V0⟩
      obtain ⟨M0, eM0, V0⟩ := V0
      have hE : E = M0 := by
        skip; (try rw [eM0]); (try first | rfl | simp [Ty.sz])
      have hEl : E.length = M0.length := by rw [hE]; (try simp only [List.length_append, List.length_cons, List.length_nil, Nat.zero_add])
      have p5 : (0 ≤ x5) = True := eq_true j0
      have q5 : (x5 < (n : Int)) = True := eq_true c3
      rw [hEl] at cl
      have e5 : wrap64 (x5 + 1) = x5 + 1 := wrap_in (by omega) (by omega)
      have HE5 := Aside0.mk e5
      have HC0 : Aside0 (x1 = k + ((cat Ls x5.toNat).length : Int)) := ⟨jx⟩
      have HCL := Aside0.mk cl
      have hs0 := (s0.mk HM0.out).cell
      have hV0 := Aside0.mk (V0.mk HM0.out)
      have HH0 : Aside0 (0 ≤ x1 ∧ x1 + (M0.length : Int) ≤ 4611686018427387904) := ⟨by have h1_ := HC0.out; have h2_ := HCL.out; (try simp only [List.length_append, List.length_cons, List.length_nil, Nat.zero_add] at h1_); (try simp only [List.length_append, List.length_cons, List.length_nil, Nat.zero_add] at h2_); omega⟩
      clear HJ jx cl hEl e5
      go_wp2_with (first | ((with_reducible refine gate_callee (f := 92) rfl ?_); refine goesL_ (some 17) rfl rfl Try.func92 (by kernel_rfl) rfl #[.slice B0 n0 c0, .int .i64 (x1)] rfl (by (try simp only [List.map_toArray, List.map_cons, List.map_nil]); first | done | rfl | (simp; done)) ?_; refine (wr_markWriteS P _ B0 n0 c0 (x1) M0 hV0.out HH0.out.1 HH0.out.2).mono ?_; rintro e w2 ⟨rfl, hm, hw⟩; refine ⟨_, rfl, ?_⟩; have HM1 := Aside0.mk (HM0.out.trans hm); have HW1 := Aside0.mk (HW0.out.trans hw HC0.out); clear hm hw; have HC1 : Aside0 (x1 + (M0.length : Int) = k + ((cat Ls x5.toNat ++ M0).length : Int)) := ⟨by have h1_ := HC0.out; rw [List.length_append]; push_cast; omega⟩))
      go_roundg (n - x5.toNat - 1)
      case measure => omega
      case rel => exact ⟨_, _, rfl, rfl, ⟨by have h1_ := HC1.out; have h5_ := HE5.out; refine ⟨by omega, by omega, ?_⟩; rw [h1_]; (try rw [h5_]); rw [show (x5 + 1).toNat = x5.toNat + 1 by omega, cs_, hE]; (try simp only [List.append_assoc])⟩, HM1, ⟨HW1.out.cast (by (try rw [HE5.out]); rw [show (x5 + 1).toNat = x5.toNat + 1 by omega, cs_, hE]; (try simp only [List.append_assoc]))⟩⟩
    · have c3b0 : decide (x5 < (n : Int)) = false := decide_eq_false c3
      have hx1 : x5.toNat = n := by omega
      rw [hx1] at jx HW0
      subst jx
      go_wp2
      go_ret
      exact ⟨rfl, HM0.out, HW0.out⟩
end Go.Proofs.Ythbcnakmnbilhaa.Marks
namespace Go.Proofs.Ythbcnakmnbilhaa.Marks
open Go.RowKit Go.Proofs.YthbcnakmnbilhaaW.PrintWords Go.Proofs.YthbcnakmnbilhaaW.PrintLast Go.Proofs.YthbcnakmnbilhaaW.PrintMore
set_option linter.unusedVariables false
set_option linter.unusedSimpArgs false
def addr2 (c : Cel) : Nat × Nat := (c.1, c.2.1)
def CellAt (w : World) (g o : Nat) : Prop := ∃ (cs : Array Value) (t : TypeId), w.heap[g]? = some (.cells cs t (0, 0)) ∧ o < cs.size
section
variable {P Q : Nat → Prop} {w w' w0 w1 w2 W W' : World} {g o n : Nat} {k k2 : Int} {L M : List Cel} {A : Option Addr} {t : Ty}
theorem CellAt.set (h : CellAt w g o) (b p : Nat) (v : Value) : CellAt (w.setCell ⟨b, p, none⟩ v) g o := by
  obtain ⟨cs, t, h1, h2⟩ := h
  by_cases e : g = b
  · subst e
    exact ⟨_, t, blk_set h1 p v, by simpa using h2⟩
  · exact ⟨cs, t, blk_far h1 (p := ⟨b, p, none⟩) e v, h2⟩
theorem IntAt.at_ (h : IntAt w g o) : CellAt w g o := by
  obtain ⟨cs, t, n, h1, h2⟩ := h
  exact ⟨cs, t, h1, (Array.getElem?_eq_some_iff.1 h2).1⟩
theorem BoolAt.at_ (h : BoolAt w g o) : CellAt w g o := by
  obtain ⟨cs, t, n, h1, h2⟩ := h
  exact ⟨cs, t, h1, (Array.getElem?_eq_some_iff.1 h2).1⟩
theorem CellAt.self (h : CellAt w g o) (v : Value) : (w.setCell ⟨g, o, none⟩ v).cell? ⟨g, o, none⟩ = some v := by
  obtain ⟨cs, t, h1, h2⟩ := h
  rw [blk_cell (blk_set h1 o v) o, Array.getElem?_setIfInBounds_self]
  simp [h2]
theorem writes_other : ∀ (L : List Cel) (w : World) (k : Int) (g o : Nat), (g, o) ∉ L.map addr2 → (writes w L k).cell? ⟨g, o, none⟩ = w.cell? ⟨g, o, none⟩
  | [], w, k, g, o, _ => rfl
  | c :: L, w, k, g, o, h => by
    rw [List.map_cons, List.mem_cons, not_or] at h
    rw [writes, writes_other L _ _ _ _ h.2]
    exact World.cell?_setCell_other (w := w) (a := ⟨c.1, c.2.1, none⟩) (b := ⟨g, o, none⟩) (v := cellv c.2.2 k) (h := fun e => h.1 (by injection e with e1 e2; rw [addr2, e1, e2]))
theorem held_writes : ∀ (L : List Cel) (w : World) (k : Int), (∀ c ∈ L, CellAt w c.1 c.2.1) → (L.map addr2).Nodup → HeldAt (writes w L k) L k
  | [], w, k, _, _ => fun j c hj => by simp at hj
  | c :: L, w, k, hc, hn => by
    rw [List.map_cons, List.nodup_cons] at hn
    intro j d hj
    cases j with
    | zero =>
      have e : d = c := by simpa using hj.symm
      subst e
      rw [writes, writes_other L _ _ d.1 d.2.1 (by exact hn.1), (hc d List.mem_cons_self).self]
      simp
    | succ j =>
      have h2 := held_writes L (w.setCell ⟨c.1, c.2.1, none⟩ (cellv c.2.2 k)) (k + 1) (fun d hd => (hc d (List.mem_cons_of_mem _ hd)).set _ _ _) hn.2 j d (by simpa using hj)
      rw [writes, h2]
      congr 2
      push_cast
      omega
theorem HeldAt.of_heap (h : HeldAt w L k) (hh : ∀ c ∈ L, w'.heap[c.1]? = w.heap[c.1]?) : HeldAt w' L k := fun j c hj => by
  have := hh c (List.mem_of_getElem? hj)
  rw [← h j c hj]
  simp [World.cell?, this]
theorem set_heap (w w' : World) (a : Addr) (v : Value) (g : Nat) (h : w.heap[g]? = w'.heap[g]?) : (w.setCell a v).heap[g]? = (w'.setCell a v).heap[g]? := by
  simp only [World.setCell, Array.getElem?_modify, h]
theorem writes_local : ∀ (L : List Cel) (w w' : World) (k : Int) (g : Nat), w.heap[g]? = w'.heap[g]? → (writes w L k).heap[g]? = (writes w' L k).heap[g]?
  | [], w, w', k, g, h => h
  | c :: L, w, w', k, g, h => by
    rw [writes, writes]
    exact writes_local L _ _ _ g (set_heap _ _ _ _ _ h)
def WrB (w : World) (L : List Cel) (k : Int) (w' : World) : Prop := ∀ g, g < w.heap.size → w'.heap[g]? = (writes w L k).heap[g]?
theorem Wr.B (h : Wr w L k w') : WrB w L k w' := by
  obtain ⟨n, rfl⟩ := h
  exact fun g _ => rfl
theorem WrB.nil (hb : Below w.heap.size w w') : WrB w [] k w' := fun g hg => hb.block g hg
theorem WrB.trans (h : WrB w L k w1) (hs : w.heap.size ≤ w1.heap.size) (h2 : WrB w1 M k2 w2) (e : k2 = k + L.length) : WrB w (L ++ M) k w2 := fun g hg => by
  rw [h2 g (Nat.lt_of_lt_of_le hg hs), writes_append, e]
  exact writes_local M _ _ _ g (h g hg)
theorem WrB.held (h : WrB w L k w') (hc : ∀ c ∈ L, CellAt w c.1 c.2.1) (hn : (L.map addr2).Nodup) : HeldAt w' L k :=
  (held_writes L w k hc hn).of_heap (fun c hm => by
    obtain ⟨cs, t, h1, _⟩ := hc c hm
    exact h c.1 (blk_lt h1))
theorem Vis.cells : ∀ {t : Ty} {g o : Nat} {L : List Cel}, Vis P w t g o L → ∀ c ∈ L, CellAt w c.1 c.2.1 ∧ (c.1 = g ∨ P c.1)
  | .int, g, o, L, h, c, hm => by
    obtain ⟨rfl, h2⟩ := h
    obtain rfl := List.mem_singleton.1 hm
    exact ⟨h2.at_, .inl rfl⟩
  | .bool, g, o, L, h, c, hm => by
    obtain ⟨rfl, h2⟩ := h
    obtain rfl := List.mem_singleton.1 hm
    exact ⟨h2.at_, .inl rfl⟩
  | .pair a b, g, o, L, ⟨L1, L2, e, h1, h2⟩, c, hm => by
    subst e
    rcases List.mem_append.1 hm with hm | hm
    · exact Vis.cells h1 c hm
    · exact Vis.cells h2 c hm
  | .sl a, g, o, L, ⟨A, n, cp, hs, hb, Ls, e, h⟩, c, hm => by
    subst e
    obtain ⟨i, hi, hm⟩ := List.mem_flatMap.1 hm
    rw [List.mem_range] at hi
    obtain ⟨g', e', hp, hv⟩ := h (by omega)
    obtain ⟨h1, h2⟩ := Vis.cells (hv i hi) c hm
    exact ⟨h1, .inr (h2.elim (fun e => e ▸ hp) id)⟩
theorem RowV.cells (h : RowV P w t A n L) : ∀ c ∈ L, CellAt w c.1 c.2.1 ∧ P c.1 := fun c hm => by
  obtain ⟨hb, Ls, e, h⟩ := h
  subst e
  obtain ⟨i, hi, hm⟩ := List.mem_flatMap.1 hm
  rw [List.mem_range] at hi
  obtain ⟨g', e', hp, hv⟩ := h (by omega)
  obtain ⟨h1, h2⟩ := Vis.cells (hv i hi) c hm
  exact ⟨h1, h2.elim (fun e => e ▸ hp) id⟩
theorem Vis.mono (hp : ∀ k, P k → Q k) : ∀ {t : Ty} {g o : Nat} {L : List Cel}, Vis P w t g o L → Vis Q w t g o L
  | .int, _, _, _, h => h
  | .bool, _, _, _, h => h
  | .pair a b, _, _, _, ⟨L1, L2, e, h1, h2⟩ => ⟨L1, L2, e, Vis.mono hp h1, Vis.mono hp h2⟩
  | .sl a, _, _, _, ⟨A, n, c, hs, hb, Ls, e, h⟩ => ⟨A, n, c, hs, hb, Ls, e, fun hn => by
    obtain ⟨g', e', hp', hi⟩ := h hn
    exact ⟨g', e', hp _ hp', fun i hl => Vis.mono hp (hi i hl)⟩⟩
theorem RowV.mono (hp : ∀ k, P k → Q k) (h : RowV P w t A n L) : RowV Q w t A n L := by
  obtain ⟨hb, Ls, e, h⟩ := h
  exact ⟨hb, Ls, e, fun hn => by
    obtain ⟨g', e', hp', hi⟩ := h hn
    exact ⟨g', e', hp _ hp', fun i hl => Vis.mono hp (hi i hl)⟩⟩
end
structure Rep {α : Type} (d : Kd α) (T : Ty) (wt : α → Nat) : Prop where
  sz : d.sz = T.sz
  vis : ∀ {w : World} {base : Nat} {ok : Nat → Prop} {x : α} {cs : List Value}, d.M w base ok x cs → ∀ (g o : Nat) (cells : Array Value) (t : TypeId), w.heap[g]? = some (.cells cells t (0, 0)) → (∀ i u, cs[i]? = some u → cells[o + i]? = some u) → ∃ L, Vis ok w T g o L ∧ L.length = wt x
theorem Rep.int : Rep (Kd.int .i64) .int (fun _ => 1) := ⟨rfl, fun {w base ok x cs} hM g o cells t hb hc => by
  have e : cs = [.int .i64 x] := hM
  subst e
  exact ⟨_, ⟨rfl, cells, t, x, hb, by simpa using hc 0 _ rfl⟩, rfl⟩⟩
theorem Rep.bool : Rep Kd.bool .bool (fun _ => 1) := ⟨rfl, fun {w base ok x cs} hM g o cells t hb hc => by
  have e : cs = [.bool x] := hM
  subst e
  exact ⟨_, ⟨rfl, cells, t, x, hb, by simpa using hc 0 _ rfl⟩, rfl⟩⟩
theorem Rep.pair {α β : Type} {a : Kd α} {b : Kd β} {S T : Ty} {wa : α → Nat} {wb : β → Nat} (ha : Rep a S wa) (hb : Rep b T wb) : Rep (Kd.pair a b) (.pair S T) (fun x => wa x.1 + wb x.2) :=
  ⟨by show a.sz + b.sz = S.sz + T.sz; rw [ha.sz, hb.sz], fun {w base ok x cs} hM g o cells t hbk hc => by
    obtain ⟨c0, c1, rfl, h0, h1⟩ := hM
    have l0 : c0.length = S.sz := by rw [a.K_len (a.K_of_M h0), ha.sz]
    obtain ⟨L1, v1, e1⟩ := ha.vis h0 g o cells t hbk (fun i u hi => hc i u (by rw [List.getElem?_append_left (List.getElem?_eq_some_iff.1 hi).1]; exact hi))
    obtain ⟨L2, v2, e2⟩ := hb.vis h1 g (o + S.sz) cells t hbk (fun i u hi => by
      have := hc (S.sz + i) u (by rw [List.getElem?_append_right (by omega), l0, Nat.add_sub_cancel_left]; exact hi)
      rwa [← Nat.add_assoc] at this)
    exact ⟨L1 ++ L2, ⟨L1, L2, rfl, v1, v2⟩, by rw [List.length_append, e1, e2]⟩⟩
theorem Rep.iso {α β : Type} {d : Kd α} {T : Ty} {wt : α → Nat} (h : Rep d T wt) (f : β → α) : Rep (Kd.iso d f) T (fun x => wt (f x)) := ⟨h.sz, fun {w base ok x cs} hM => h.vis hM⟩
def wsum {α : Type} (wt : α → Nat) : List α → Nat
  | [] => 0
  | x :: r => wt x + wsum wt r
theorem cat_len {α : Type} (wt : α → Nat) : ∀ (xs : List α) (Ls : Nat → List Cel), (∀ i x, xs[i]? = some x → (Ls i).length = wt x) → (cat Ls xs.length).length = wsum wt xs := by
  intro xs Ls h
  have key : ∀ n, n ≤ xs.length → (cat Ls n).length = wsum wt (xs.take n) := by
    intro n
    induction n with
    | zero => intro _; simp [cat, wsum]
    | succ n ih =>
      intro hn
      have hw : ∀ (a b : List α), wsum wt (a ++ b) = wsum wt a + wsum wt b := by
        intro a b
        induction a with
        | nil => simp [wsum]
        | cons y r ih => rw [List.cons_append, wsum, wsum, ih]; omega
      rw [cat_succ, List.length_append, ih (by omega), List.take_succ_eq_append_getElem (show n < xs.length by omega), hw, h n xs[n] (List.getElem?_eq_getElem (by omega))]
      simp [wsum]
  rw [key xs.length (Nat.le_refl _), List.take_length]
theorem Rep.row {α : Type} {d : Kd α} {T : Ty} {wt : α → Nat} (h : Rep d T wt) {e : Nat} {w : World} {base : Nat} {ok : Nat → Prop} {v : Value} {xs : List α} (hR : d.R e w base ok v xs) :
    ∃ A c L, v = .slice A xs.length c ∧ RowV ok w T A xs.length L ∧ L.length = wsum wt xs := by
  obtain ⟨h0, inner, ho, hr⟩ := hR
  have ho2 := ho.2
  rcases ho2 with ⟨rfl, hn⟩ | ⟨g, cap, cur, rfl, hg, hh, hcap, hmax, hsz, htk⟩
  · obtain rfl := List.eq_nil_of_length_eq_zero hn
    exact ⟨none, 0, [], rfl, ⟨by simp, fun _ => [], rfl, fun h => absurd h (by simp)⟩, rfl⟩
  · have hmx : xs.length ≤ 9223372036854775807 := by have : cap ≤ 9223372036854775807 := hmax; omega
    have key : ∀ i x, xs[i]? = some x → ∃ L, Vis ok w T g (i * T.sz) L ∧ L.length = wt x := fun i x hi => by
      have hM := hr.2 i x hi
      have hil : i < xs.length := (List.getElem?_eq_some_iff.1 hi).1
      have hM2 := d.M_mono (ok' := ok) (fun k hk => hk.1) hM
      obtain ⟨L, v1, e1⟩ := h.vis hM2 g (i * T.sz) cur e hh (fun j u hj => by
        have hjl : j < d.sz := by
          have := (List.getElem?_eq_some_iff.1 hj).1
          rw [List.length_take] at this
          omega
        rw [List.getElem?_take, if_pos hjl, List.getElem?_drop, ← htk] at hj
        have hlt : i * d.sz + j < xs.length * d.sz := by
          have : (i + 1) * d.sz ≤ xs.length * d.sz := Nat.mul_le_mul_right _ hil
          rw [Nat.add_mul, Nat.one_mul] at this
          omega
        rw [List.getElem?_take, if_pos hlt, Array.getElem?_toList] at hj
        rw [← h.sz]
        exact hj)
      exact ⟨L, v1, e1⟩
    classical
    have : ∃ Ls : Nat → List Cel, ∀ i x, xs[i]? = some x → Vis ok w T g (i * T.sz) (Ls i) ∧ (Ls i).length = wt x := by
      refine ⟨fun i => if h : ∃ x, xs[i]? = some x then (key i h.choose h.choose_spec).choose else [], fun i x hi => ?_⟩
      have hex : ∃ x, xs[i]? = some x := ⟨x, hi⟩
      have ex : hex.choose = x := Option.some.inj (hex.choose_spec.symm.trans hi)
      simp only [dif_pos hex]
      have hs := (key i hex.choose hex.choose_spec).choose_spec
      exact ⟨hs.1, by rw [hs.2, ex]⟩
    obtain ⟨Ls, hLs⟩ := this
    refine ⟨some ⟨g, 0, none⟩, cap, cat Ls xs.length, rfl, ⟨hmx, Ls, rfl, fun _ => ⟨g, rfl, h0 g rfl, fun i hi => (hLs i xs[i] (List.getElem?_eq_getElem hi)).1⟩⟩, cat_len wt xs Ls (fun i x hi => (hLs i x hi).2)⟩
theorem Rep.slice {α : Type} {d : Kd α} {T : Ty} {wt : α → Nat} (h : Rep d T wt) (e : Nat) : Rep (Kd.slice e d) (.sl T) (wsum wt) :=
  ⟨rfl, fun {w base ok x cs} hM g o cells t hb hc => by
    obtain ⟨v, rfl, hR⟩ := hM
    obtain ⟨A, c, L, rfl, ⟨hmx, Ls, e1, hrow⟩, hl⟩ := h.row hR
    exact ⟨L, ⟨A, x.length, c, ⟨cells, t, hb, by simpa using hc 0 _ rfl⟩, hmx, Ls, e1, hrow⟩, hl⟩⟩
end Go.Proofs.Ythbcnakmnbilhaa.Marks
namespace Go.Proofs.Ythbcnakmnbilhaa.PFnExactChanIn
open Go.RowKit Go.Proofs.YthbcnakmnbilhaaW.PrintWords Go.Proofs.YthbcnakmnbilhaaW.PrintLast Go.Proofs.YthbcnakmnbilhaaW.PrintMore Go.Proofs.Ythbcnakmnbilhaa.Marks
set_option linter.unusedVariables false
set_option linter.unusedSimpArgs false
def wt43 (x : S43) : Nat := (fun q : _ => 1 + (wsum (fun _ => 1) (q.2))) ((x.f0, x.f1))
def laws_FnExactChanIn.f (k : Nat) (l0_0 : List (List (S139))) (l1 : List Int) (a2 : Int) : Option Bool := if (l1.length : Int) > 1048576 then some true else (laws_szMemory.f k l0_0 1048576).bind fun t1 => if t1 < 0 then some true else (laws_toMemory.f k l0_0).bind fun t2 => (laws_toIntS.f k l1).bind fun t3 => (spec_ChanIn.f k t2 t3 a2).bind fun bA5 => (laws_toMemory.f k l0_0).bind fun t8 => (laws_toIntS.f k l1).bind fun t9 => (impl_ChanIn.f k t8 t9 a2).bind fun bA12 => if bA12.2.2.2 = bA5.2.2.2 then (laws_eqChan.f k bA12.1 bA12.2.1 bA12.2.2.1 bA5.1 bA5.2.1 bA5.2.2.1).bind fun eA15 => if eA15 = true then (laws_toMemory.f k l0_0).bind fun t14 => (laws_eqMemory.f k t8 t14).bind fun eA18 => if eA18 = true then (laws_toIntS.f k l1).bind fun t15 => (laws_eqIntS.f k t9 t15).bind fun eA20 => if eA20 = true then if wsum (wsum wt43) t8 ≤ 1152921504606846976 then if wsum (fun _ => 1) t9 ≤ 1152921504606846976 then (laws_eqChan.f k bA12.1 bA12.2.1 bA12.2.2.1 bA5.1 bA5.2.1 bA5.2.2.1).bind fun eA23 => if eA23 = true then if wsum (fun _ => 1) bA12.2.1 ≤ 1152921504606846976 then (laws_toMemory.f k l0_0).bind fun t16 => (laws_toIntS.f k l1).bind fun t17 => (impl_ChanIn.f k t16 t17 a2).bind fun bA28 => if bA28.2.2.2 = bA5.2.2.2 then (laws_eqChan.f k bA28.1 bA28.2.1 bA28.2.2.1 bA5.1 bA5.2.1 bA5.2.2.1).bind fun eA31 => if eA31 = true then some true else some false else some false else none else some false else none else none else some false else some false else some false else some false
end Go.Proofs.Ythbcnakmnbilhaa.PFnExactChanIn
