/- A part of the proof that the law FnStore holds for every input: the words, functions and walks that its row needs, without a condition of their own. -/
import Derived.Test.YthbcnakmnbilhaaProg
import Derived.Below
import Derived.Deep.Draws
import Derived.Deep.AppendLies
import Derived.Maps.AppendAt
import Derived.OwnWalk
import Derived.Laws.BytesArg
import Derived.Laws.MakeOwn
import Derived.Laws.OwnMore
import Derived.Deep.OwnRows
import Derived.Tactics
import Derived.Lib.ConvBytes
import Derived.Laws.Slices
import Derived.WalkKit
import Derived.KernelRfl
import Derived.RowKit3
import Derived.Deep.LoopGhost
import Derived.Deep.QuietTactic
import Derived.BigQuiet
import Derived.WideLaws
import Derived.Deep.DeepCutAuto
import Derived.Deep.CutBlock
import Derived.Deep.RegionHeld3
import Derived.Laws.Rows
import Derived.Lib.AppendStr
import Derived.ArgAppend
import Derived.Laws.IdiomCopy
import Derived.OrdersHeld
import Derived.Laws.BitsLemmas
import Derived.RowKit
import Derived.Laws.StructEq
import Derived.Test.YthbcnakmnbilhaaZFnStorea0
import Derived.Test.YthbcnakmnbilhaaZFnStorea1
import Derived.Test.YthbcnakmnbilhaaZFnStores
namespace Go.Proofs.Ythbcnakmnbilhaa.PFnStore
open Go.RowKit Go.Proofs.YthbcnakmnbilhaaW.PrintWords Go.Proofs.YthbcnakmnbilhaaW.PrintLast Go.Proofs.YthbcnakmnbilhaaW.PrintMore
attribute [local go_sem] max2_int min2_int max_two min_two max_three min_three max_four min_four   -- for this text's walks alone
set_option linter.unusedVariables false
set_option linter.unusedSimpArgs false
def errW : Option Int → Value
  | none => .nilIface
  | some c => .iface 0 (.int .i64 c)
theorem errW_none : errW none = .nilIface := rfl
theorem errW_some (c : Int) : errW (some c) = .iface 0 (.int .i64 c) := rfl
theorem info3 : (Try.prog.info? 3).map (fun i => (i.zero,i.size,i.bytes)) = some (some (.int .i64 0),1,8) := by kernel_rfl
theorem info43 : (Try.prog.info? 43).map (fun i => (i.zero,i.size,i.bytes)) = some (some (.agg #[(.int .i64 0),(.slice none 0 0)]),2,32) := by kernel_rfl
theorem info44 : (Try.prog.info? 44).map (fun i => (i.zero,i.size,i.bytes)) = some (some (.slice none 0 0),1,24) := by kernel_rfl
structure S43 where
  f0 : Int
  f1 : (List Int)
def z43 : S43 := ⟨(0 : Int),([] : List Int)⟩
def k43 : Kd S43 := Kd.iso (Kd.pair (Kd.int .i64) (Kd.slice 3 (Kd.int .i64))) (fun x : S43 => (x.f0,x.f1))
theorem k43_open {w : World} {x : S43} {cs : List Value} (h : k43.K w x cs) : ∃ A1 c1,cs = [.int .i64 x.f0,.slice A1 x.f1.length c1] ∧ x.f1.length ≤ c1 ∧ (Kd.int .i64).C w A1 x.f1.length x.f1 := by
 obtain ⟨_,_,rfl,rfl,⟨A1,c1,rfl,l1,g1⟩⟩ := h
 exact ⟨A1,c1,rfl,l1,g1⟩
theorem k43_openM {w : World} {base : Nat} {ok : Nat → Prop} {x : S43} {cs : List Value} (h : k43.M w base ok x cs) : ∃ v1,cs = [.int .i64 x.f0,v1] ∧ (Kd.int .i64).R 3 w base ok v1 x.f1 := by
 obtain ⟨_,_,rfl,rfl,⟨v1,rfl,g1⟩⟩ := h
 exact ⟨v1,rfl,g1⟩
theorem k43_mkM (w : World) (base : Nat) (ok : Nat → Prop) (x : S43) {v1 : Value} (g1 : (Kd.int .i64).R 3 w base ok v1 x.f1) : k43.M w base ok x [.int .i64 x.f0,v1] := ⟨[.int .i64 x.f0],[v1],rfl,rfl,⟨v1,rfl,g1⟩⟩
def rd_T43 (xs : List S43) (i : Int) : S43 := xs.getD i.toNat z43
theorem at_T43 {w : World} {A : Option Addr} {n : Nat} {xs : List S43} (h : Kd.C k43 w A n xs) (i : Int) (h0 : 0 ≤ i) (h1 : i < n) : ∃ ad A1 c1,A = some ad ∧ w.cell? (ad.add (i.toNat * 2)) = some (.int .i64 (rd_T43 xs i).f0) ∧ w.cell? ⟨(ad.add (i.toNat * 2)).block,(ad.add (i.toNat * 2)).off + 1,none⟩ = some (.slice A1 (rd_T43 xs i).f1.length c1) ∧ (rd_T43 xs i).f1.length ≤ c1 ∧ (Kd.int .i64).C w A1 (rd_T43 xs i).f1.length (rd_T43 xs i).f1 := by
 obtain ⟨ad,c,e,_,hK,hc0⟩ := Kd.C_get h z43 i h0 h1
 have hc : ∀ j u,c[j]? = some u → w.cell? (ad.add (i.toNat * 2 + j)) = some u := hc0
 obtain ⟨A1,c1,rfl,l1,g1⟩ := k43_open hK
 exact ⟨ad,A1,c1,e,hc 0 _ rfl,by rw [← add_field _ _ 1 (by omega)];exact hc 1 _ rfl,l1,g1⟩
def rd_L4 (xs : List (List S43)) (i : Int) : (List S43) := xs.getD i.toNat ([] : List S43)
theorem at_L4 {w : World} {A : Option Addr} {n : Nat} {xs : List (List S43)} (h : Kd.C (Kd.slice 43 k43) w A n xs) (i : Int) (h0 : 0 ≤ i) (h1 : i < n) : ∃ ad A0 c0,A = some ad ∧ w.cell? (ad.add i.toNat) = some (.slice A0 (rd_L4 xs i).length c0) ∧ (rd_L4 xs i).length ≤ c0 ∧ k43.C w A0 (rd_L4 xs i).length (rd_L4 xs i) := by
 obtain ⟨ad,c,e,_,hK,hc0⟩ := Kd.C_get h ([] : List S43) i h0 h1
 have hc : ∀ j u,c[j]? = some u → w.cell? (ad.add (i.toNat * 1 + j)) = some u := hc0
 obtain ⟨A0,c0,rfl,l0,g0⟩ := hK
 exact ⟨ad,A0,c0,e,by have hq := hc 0 _ rfl;rwa [Nat.mul_one,Nat.add_zero] at hq,l0,g0⟩
end Go.Proofs.Ythbcnakmnbilhaa.PFnStore
namespace Go.Proofs.Ythbcnakmnbilhaa.PFnStore
open Go.RowKit Go.Proofs.YthbcnakmnbilhaaW.PrintWords Go.Proofs.YthbcnakmnbilhaaW.PrintLast Go.Proofs.YthbcnakmnbilhaaW.PrintMore
attribute [local go_sem] max2_int min2_int max_two min_two max_three min_three max_four min_four   -- for this text's walks alone
set_option linter.unusedVariables false
set_option linter.unusedSimpArgs false
def laws_big.f (l0 : List Int) : Option (Bool) := some (decide ((l0.length : Int) > 1048576))
set_option maxHeartbeats 8000000 in
set_option maxRecDepth 100000 in
theorem laws_big.calls (A0 : Option Addr) (c0 : Nat) (l0 : List Int) (r : Bool) (w : World) (hr0 : Kd.C (Kd.int .u8) w A0 l0.length l0) (hc0 : l0.length ≤ c0) (h : laws_big.f l0 = some r) :
  Calls Try.prog 18 #[.slice A0 l0.length c0] w fun e w' => e = .returned (.bool r) ∧ Drawn0 w w' := by
 have HR0 := aM_ hr0
 have HC0 := aM_ hc0
 clear hr0 hc0
 have H : (some (decide ((l0.length : Int) > 1048576))) = some r := h
 clear h
 obtain rfl := Option.some.inj H
 go_enter Try.func18,Try.ntmps18
 go_wp2
 go_ret
 exact ⟨by first | rfl | (simp;done) | (simp [*];done),by repeat (first | exact Drawn0.refl _ | apply Drawn0.step)⟩
def impl_within.f (a0 : Int) (a1 : Int) (a2 : Int) : Option (Bool) := if a0 ≥ a1 then (some (decide (a0 ≤ a2))) else (some false)
set_option maxHeartbeats 8000000 in
set_option maxRecDepth 100000 in
theorem impl_within.calls (a0 : Int) (a1 : Int) (a2 : Int) (r : Bool) (w : World) (h : impl_within.f a0 a1 a2 = some r) :
  Calls Try.prog 68 #[.int .i64 a0,.int .i64 a1,.int .i64 a2] w fun e w' => e = .returned (.bool r) ∧ Drawn0 w w' := by
 have H : (if a0 ≥ a1 then (some (decide (a0 ≤ a2))) else (some false)) = some r := h
 clear h
 by_cases c4 : a0 ≥ a1
 ·rw [if_pos c4] at H
  have c4b0 : decide (a1 ≤ a0) = true := decide_eq_true c4
  clear c4
  obtain rfl := Option.some.inj H
  go_enter Try.func68,Try.ntmps68
  go_wp2
  go_ret
  exact ⟨by first | rfl | (simp;done) | (simp [*];done),by repeat (first | exact Drawn0.refl _ | apply Drawn0.step)⟩
 ·rw [if_neg c4] at H
  have c4b0 : decide (a1 ≤ a0) = false := decide_eq_false c4
  clear c4
  obtain rfl := Option.some.inj H
  go_enter Try.func68,Try.ntmps68
  go_wp2
  go_ret
  exact ⟨by first | rfl | (simp;done) | (simp [*];done),by repeat (first | exact Drawn0.refl _ | apply Drawn0.step)⟩
def impl_ViewOk.l0 : Nat → List Int → Int → Int → List (List (S43)) → Option (Bool)
  | 0,_,_,_,_ => none
  | k + 1,x13,x14,x15,x102000 => if x15 < x14 then (if 0 ≤ x15 then (if x15 < (x13.length : Int) then (if x15 < (x102000.length : Int) then ((impl_within.f (rd x13 x15) 0 (wrap64 (((rd_L4 x102000 x15).length : Int) - 1))).bind fun t104 => (if t104 = true then (impl_ViewOk.l0 k x13 x14 (wrap64 (x15 + 1)) x102000) else (some false))) else (none)) else (none)) else (none)) else (some true)
def impl_ViewOk.f (k : Nat) (l0_0 : List (List (S43))) (l1 : List Int) : Option (Bool) := if (l1.length : Int) = (l0_0.length : Int) then (impl_ViewOk.l0 k l1 (l1.length : Int) 0 l0_0) else (some false)
set_option maxHeartbeats 8000000 in
set_option maxRecDepth 100000 in
theorem impl_ViewOk.calls (k : Nat) (A0_0 : Option Addr) (c0_0 : Nat) (l0_0 : List (List (S43))) (A1 : Option Addr) (c1 : Nat) (l1 : List Int) (r : Bool) (w : World) (hr0_0 : Kd.C (Kd.slice 43 k43) w A0_0 l0_0.length l0_0) (hc0_0 : l0_0.length ≤ c0_0) (hr1 : Kd.C (Kd.int .i64) w A1 l1.length l1) (hc1 : l1.length ≤ c1) (h : impl_ViewOk.f k l0_0 l1 = some r) :
  Calls Try.prog 28 #[.agg #[.slice A0_0 l0_0.length c0_0],.slice A1 l1.length c1] w fun e w' => e = .returned (.bool r) ∧ Below w.heap.size w w' := by
 have hu24 := Try.underlying24
 have HR0_0 := aM_ hr0_0
 have HC0_0 := aM_ hc0_0
 clear hr0_0 hc0_0
 have HR1 := aM_ hr1
 have HC1 := aM_ hc1
 clear hr1 hc1
 have HB := aM_ (Below.refl w.heap.size w)
 have H : (if (l1.length : Int) = (l0_0.length : Int) then (impl_ViewOk.l0 k l1 (l1.length : Int) 0 l0_0) else (some false)) = some r := h
 clear h
 by_cases c3 : (l1.length : Int) = (l0_0.length : Int)
 ·rw [if_pos c3] at H
  have c3b0 : ((l1.length : Int) == (l0_0.length : Int)) = true := beq_iff_eq.mpr c3
  have c3b1 : ((l1.length : Int) != (l0_0.length : Int)) = false := bne_eq_false_iff_eq.mpr c3
  have c3b2 : (l1.length == l0_0.length) = true := by first | simpa using c3 | (simp at c3 ⊢;omega)
  clear c3
  have H' := aM_ H
  clear H
  go_enter Try.func28,Try.ntmps28
  go_wp2_with (first | ((with_reducible refine gate_dst (N := 2) rfl ?_);refine bX_ 2 (cs := #[.slice A0_0 l0_0.length c0_0]) (t := 24) ?_;intro gb101 hg w4 hbox hb;have n0 := aM_ (sT_ HB.out hb);have n1 := aM_ (hbox);have n2 := aM_ (sZ_ hg HB.out);have n3 := aM_ (sZ_ hg HB.out);clear HB;have HB := n0;have BK101 := n1;have GW101 := n2;have GE101 := n3;clear n0 n1 n2 n3;clear hb hbox hg;have hcz5_0 : w4.cell? ⟨gb101,0,none⟩ = some (.slice A0_0 l0_0.length c0_0) := (blk_cell BK101.out 0).trans rfl;have hfz5_0 := blk_frozen BK101.out 0))
  go_loopg [15] k (fun kq v15 w' => ∃ (x15_1 : Int),v15 = .int .i64 x15_1 ∧ Aside0 (impl_ViewOk.l0 kq l1 (l1.length : Int) x15_1 l0_0 = some r) ∧ Aside0 (kq ≤ k) ∧ Aside0 (w'.heap[gb101]? = some (.cells #[(.slice A0_0 l0_0.length c0_0)] 24 (0,0))) ∧ Aside0 (Below w.heap.size w w'))
  case atStart => exact ⟨(0),(by first | rfl | (simp;done) | (simp [*];done)),H',⟨Nat.le_refl _⟩,⟨rW_ BK101.out⟩,⟨gW_ HB.out⟩⟩
  case round =>
   clear H'
   try clear c1
   try clear c2
   try clear p2
   try clear c3
   try clear c3b0
   try clear c3b1
   try clear c3b2
   try clear hcz5_0 hfz5_0
   obtain ⟨x15_1,rfl,HA,HK1,BK101,HB⟩ := hrel
   cases gk with
   | zero => exact absurd HA.out (by simp [impl_ViewOk.l0])
   | succ k1 =>
    have H := HA.out
    clear HA
    simp only [impl_ViewOk.l0] at H
    by_cases c6 : x15_1 < (l1.length : Int)
    ·rw [if_pos c6] at H
     have c6b0 : decide (x15_1 < (l1.length : Int)) = true := decide_eq_true c6
     clear c6
     by_cases c7 : 0 ≤ x15_1
     ·rw [if_pos c7] at H
      have c7b0 : decide (0 ≤ x15_1) = true := decide_eq_true c7
      clear c7
      by_cases c8 : x15_1 < (l1.length : Int)
      ·rw [if_pos c8] at H
       have c8b0 : decide (x15_1 < (l1.length : Int)) = true := decide_eq_true c8
       clear c8
       by_cases c9 : x15_1 < (l0_0.length : Int)
       ·rw [if_pos c9] at H
        have c9b0 : decide (x15_1 < (l0_0.length : Int)) = true := decide_eq_true c9
        clear c9
        replace H := Option.bind_eq_some_iff.mp H
        obtain ⟨t104,A100,H⟩ := H
        replace H : (if t104 = true then (impl_ViewOk.l0 k1 l1 (l1.length : Int) (wrap64 (x15_1 + 1)) l0_0) else (some false)) = some r := H
        have A10 := aM_ A100
        clear A100
        by_cases c11 : t104 = true
        ·subst c11
         have H1 : (impl_ViewOk.l0 k1 l1 (l1.length : Int) (wrap64 (x15_1 + 1)) l0_0) = some r := by rw [if_pos rfl] at H;exact H
         clear H
         have H := H1
         clear H1
         have H' := aM_ H
         clear H
         have p102 : 0 ≤ (x15_1 : Int) := of_decide_eq_true (by first | (with_reducible assumption) | assumption)
         have q102 : x15_1 < (l1.length : Int) := of_decide_eq_true (by first | (with_reducible assumption) | assumption)
         obtain ⟨ad102,e102,hx102_0⟩ := Kd.at_int HR1.out x15_1 p102 q102
         cases e102
         replace hx102_0 := cB_ HB.out hx102_0
         replace p102 := eq_true p102
         replace q102 := eq_true q102
         have hcz12_0 : wr.cell? ⟨gb101,0,none⟩ = some (.slice A0_0 l0_0.length c0_0) := (blk_cell BK101.out 0).trans rfl
         have hfz12_0 := blk_frozen BK101.out 0
         have p103 : 0 ≤ (x15_1 : Int) := of_decide_eq_true (by first | (with_reducible assumption) | assumption)
         have q103 : x15_1 < (l0_0.length : Int) := of_decide_eq_true (by first | (with_reducible assumption) | assumption)
         obtain ⟨ad103,A103_0,c103_0,e103,hx103_0,hl103_0,hi103_0⟩ := at_L4 HR0_0.out x15_1 p103 q103
         cases e103
         replace hx103_0 := cB_ HB.out hx103_0
         have HR103_0 := aM_ hi103_0
         have HC103_0 := aM_ hl103_0
         clear hi103_0 hl103_0
         replace p103 := eq_true p103
         replace q103 := eq_true q103
         go_wp2_with (first | ((with_reducible refine gate_callee (f := 68) rfl ?_);refine gL_ (some 28) Try.func68 #[.int .i64 (rd l1 x15_1),.int .i64 0,.int .i64 (wrap64 (((rd_L4 l0_0 x15_1).length : Int) - 1))] ?_;(with_reducible refine (impl_within.calls (rd l1 x15_1) 0 (wrap64 (((rd_L4 l0_0 x15_1).length : Int) - 1)) true _ A10.out).mono ?_);rintro e w' ⟨rfl,⟨nd,rfl⟩⟩;refine ⟨_,rfl,?_⟩))
         go_roundg k1
         case measure => have := HK1.out;omega
         case rel => exact ⟨(wrap64 (x15_1 + 1)),(by first | rfl | (simp;done) | (simp [*];done)),H',⟨by have := HK1.out;omega⟩,⟨rW_ BK101.out⟩,⟨gW_ HB.out⟩⟩
        ·replace c11 := Bool.eq_false_iff.mpr c11
         subst c11
         have H1 : (some false) = some r := by rw [if_neg (show ¬ (false = true) by decide)] at H;exact H
         clear H
         have H := H1
         clear H1
         obtain rfl := Option.some.inj H
         have p102 : 0 ≤ (x15_1 : Int) := of_decide_eq_true (by first | (with_reducible assumption) | assumption)
         have q102 : x15_1 < (l1.length : Int) := of_decide_eq_true (by first | (with_reducible assumption) | assumption)
         obtain ⟨ad102,e102,hx102_0⟩ := Kd.at_int HR1.out x15_1 p102 q102
         cases e102
         replace hx102_0 := cB_ HB.out hx102_0
         replace p102 := eq_true p102
         replace q102 := eq_true q102
         have hcz13_0 : wr.cell? ⟨gb101,0,none⟩ = some (.slice A0_0 l0_0.length c0_0) := (blk_cell BK101.out 0).trans rfl
         have hfz13_0 := blk_frozen BK101.out 0
         have p103 : 0 ≤ (x15_1 : Int) := of_decide_eq_true (by first | (with_reducible assumption) | assumption)
         have q103 : x15_1 < (l0_0.length : Int) := of_decide_eq_true (by first | (with_reducible assumption) | assumption)
         obtain ⟨ad103,A103_0,c103_0,e103,hx103_0,hl103_0,hi103_0⟩ := at_L4 HR0_0.out x15_1 p103 q103
         cases e103
         replace hx103_0 := cB_ HB.out hx103_0
         have HR103_0 := aM_ hi103_0
         have HC103_0 := aM_ hl103_0
         clear hi103_0 hl103_0
         replace p103 := eq_true p103
         replace q103 := eq_true q103
         go_wp2_with (first | ((with_reducible refine gate_callee (f := 68) rfl ?_);refine gL_ (some 28) Try.func68 #[.int .i64 (rd l1 x15_1),.int .i64 0,.int .i64 (wrap64 (((rd_L4 l0_0 x15_1).length : Int) - 1))] ?_;(with_reducible refine (impl_within.calls (rd l1 x15_1) 0 (wrap64 (((rd_L4 l0_0 x15_1).length : Int) - 1)) false _ A10.out).mono ?_);rintro e w' ⟨rfl,⟨nd,rfl⟩⟩;refine ⟨_,rfl,?_⟩))
         go_ret
         exact fI_ HB.out
       ·rw [if_neg c9] at H
        exact absurd H (by simp)
      ·rw [if_neg c8] at H
       exact absurd H (by simp)
     ·rw [if_neg c7] at H
      exact absurd H (by simp)
    ·rw [if_neg c6] at H
     have c6b0 : decide (x15_1 < (l1.length : Int)) = false := decide_eq_false c6
     clear c6
     obtain rfl := Option.some.inj H
     go_wp2
     go_ret
     exact fI_ HB.out
 ·rw [if_neg c3] at H
  have c3b0 : ((l1.length : Int) == (l0_0.length : Int)) = false := beq_eq_false_iff_ne.mpr c3
  have c3b1 : ((l1.length : Int) != (l0_0.length : Int)) = true := bne_iff_ne.mpr c3
  have c3b2 : (l1.length == l0_0.length) = false := by first | simpa using c3 | (simp at c3 ⊢;omega)
  obtain rfl := Option.some.inj H
  go_enter Try.func28,Try.ntmps28
  go_wp2_with (first | ((with_reducible refine gate_dst (N := 2) rfl ?_);refine bX_ 2 (cs := #[.slice A0_0 l0_0.length c0_0]) (t := 24) ?_;intro gb101 hg w14 hbox hb;have n0 := aM_ (sT_ HB.out hb);have n1 := aM_ (hbox);have n2 := aM_ (sZ_ hg HB.out);have n3 := aM_ (sZ_ hg HB.out);clear HB;have HB := n0;have BK101 := n1;have GW101 := n2;have GE101 := n3;clear n0 n1 n2 n3;clear hb hbox hg;have hcz15_0 : w14.cell? ⟨gb101,0,none⟩ = some (.slice A0_0 l0_0.length c0_0) := (blk_cell BK101.out 0).trans rfl;have hfz15_0 := blk_frozen BK101.out 0))
  go_ret
  exact fI_ HB.out
mutual
def impl_MemoryOk.l0 : Nat → List (List (S43)) → Int → Int → List (List (S43)) → Option (Bool)
  | 0,_,_,_,_ => none
  | k + 1,x8,x9,x10,x106000 => if x10 < x9 then (if 0 ≤ x10 then (if x10 < (x8.length : Int) then ((impl_within.f ((rd_L4 x8 x10).length : Int) 1 4000).bind fun t107 => (if t107 = true then (impl_MemoryOk.l1 k x8 x9 x10 (rd_L4 x8 x10) ((rd_L4 x8 x10).length : Int) 0 x106000) else (some false))) else (none)) else (none)) else (some ((x106000.length : Int) == 24))
def impl_MemoryOk.l1 : Nat → List (List (S43)) → Int → Int → List (S43) → Int → Int → List (List (S43)) → Option (Bool)
  | 0,_,_,_,_,_,_,_ => none
  | k + 1,x8,x9,x10,x18,x19,x20,x106000 => if x20 < x19 then (if 0 ≤ x20 then (if x20 < (x18.length : Int) then ((impl_ViewOk.f k x106000 ((rd_T43 x18 x20).f1)).bind fun t110 => (if t110 = true then (impl_MemoryOk.l1 k x8 x9 x10 x18 x19 (wrap64 (x20 + 1)) x106000) else (some false))) else (none)) else (none)) else (impl_MemoryOk.l0 k x8 x9 (wrap64 (x10 + 1)) x106000)
end
def impl_MemoryOk.f (k : Nat) (l0_0 : List (List (S43))) : Option (Bool) := impl_MemoryOk.l0 k l0_0 (l0_0.length : Int) 0 l0_0
set_option maxHeartbeats 8000000 in
set_option maxRecDepth 100000 in
theorem impl_MemoryOk.calls (k : Nat) (A0_0 : Option Addr) (c0_0 : Nat) (l0_0 : List (List (S43))) (r : Bool) (w : World) (hr0_0 : Kd.C (Kd.slice 43 k43) w A0_0 l0_0.length l0_0) (hc0_0 : l0_0.length ≤ c0_0) (h : impl_MemoryOk.f k l0_0 = some r) :
  Calls Try.prog 26 #[.agg #[.slice A0_0 l0_0.length c0_0]] w fun e w' => e = .returned (.bool r) ∧ Below w.heap.size w w' := by
 have hu24 := Try.underlying24
 have hu43 := Try.underlying43
 have HR0_0 := aM_ hr0_0
 have HC0_0 := aM_ hc0_0
 clear hr0_0 hc0_0
 have HB := aM_ (Below.refl w.heap.size w)
 have H : (impl_MemoryOk.l0 k l0_0 (l0_0.length : Int) 0 l0_0) = some r := h
 clear h
 have H' := aM_ H
 clear H
 go_enter Try.func26,Try.ntmps26
 go_wp2_with (first | ((with_reducible refine gate_dst (N := 1) rfl ?_);refine bX_ 1 (cs := #[.slice A0_0 l0_0.length c0_0]) (t := 24) ?_;intro gb105 hg w2 hbox hb;have n0 := aM_ (sT_ HB.out hb);have n1 := aM_ (hbox);have n2 := aM_ (sZ_ hg HB.out);have n3 := aM_ (sZ_ hg HB.out);clear HB;have HB := n0;have BK105 := n1;have GW105 := n2;have GE105 := n3;clear n0 n1 n2 n3;clear hb hbox hg;have hcz3_0 : w2.cell? ⟨gb105,0,none⟩ = some (.slice A0_0 l0_0.length c0_0) := (blk_cell BK105.out 0).trans rfl;have hfz3_0 := blk_frozen BK105.out 0))
 go_loopg [10] k (fun kq v10 w' => ∃ (x10_1 : Int),v10 = .int .i64 x10_1 ∧ Aside0 (impl_MemoryOk.l0 kq l0_0 (l0_0.length : Int) x10_1 l0_0 = some r) ∧ Aside0 (kq ≤ k) ∧ Aside0 (w'.heap[gb105]? = some (.cells #[(.slice A0_0 l0_0.length c0_0)] 24 (0,0))) ∧ Aside0 (Below w.heap.size w w'))
 case atStart => exact ⟨(0),(by first | rfl | (simp;done) | (simp [*];done)),H',⟨Nat.le_refl _⟩,⟨rW_ BK105.out⟩,⟨gW_ HB.out⟩⟩
 case round =>
  clear H'
  try clear c2
  try clear p2
  try clear hcz3_0 hfz3_0
  obtain ⟨x10_1,rfl,HA,HK1,BK105,HB⟩ := hrel
  cases gk with
  | zero => exact absurd HA.out (by simp [impl_MemoryOk.l0])
  | succ k1 =>
   have H := HA.out
   clear HA
   simp only [impl_MemoryOk.l0] at H
   by_cases c4 : x10_1 < (l0_0.length : Int)
   ·rw [if_pos c4] at H
    have c4b0 : decide (x10_1 < (l0_0.length : Int)) = true := decide_eq_true c4
    clear c4
    by_cases c5 : 0 ≤ x10_1
    ·rw [if_pos c5] at H
     have c5b0 : decide (0 ≤ x10_1) = true := decide_eq_true c5
     clear c5
     by_cases c6 : x10_1 < (l0_0.length : Int)
     ·rw [if_pos c6] at H
      have c6b0 : decide (x10_1 < (l0_0.length : Int)) = true := decide_eq_true c6
      clear c6
      replace H := Option.bind_eq_some_iff.mp H
      obtain ⟨t107,A70,H⟩ := H
      replace H : (if t107 = true then (impl_MemoryOk.l1 k1 l0_0 (l0_0.length : Int) x10_1 (rd_L4 l0_0 x10_1) ((rd_L4 l0_0 x10_1).length : Int) 0 l0_0) else (some false)) = some r := H
      have A7 := aM_ A70
      clear A70
      by_cases c8 : t107 = true
      ·subst c8
       have H1 : (impl_MemoryOk.l1 k1 l0_0 (l0_0.length : Int) x10_1 (rd_L4 l0_0 x10_1) ((rd_L4 l0_0 x10_1).length : Int) 0 l0_0) = some r := by rw [if_pos rfl] at H;exact H
       clear H
       have H := H1
       clear H1
       have H' := aM_ H
       clear H
       have p106 : 0 ≤ (x10_1 : Int) := of_decide_eq_true (by first | (with_reducible assumption) | assumption)
       have q106 : x10_1 < (l0_0.length : Int) := of_decide_eq_true (by first | (with_reducible assumption) | assumption)
       obtain ⟨ad106,A106_0,c106_0,e106,hx106_0,hl106_0,hi106_0⟩ := at_L4 HR0_0.out x10_1 p106 q106
       cases e106
       replace hx106_0 := cB_ HB.out hx106_0
       have HR106_0 := aM_ hi106_0
       have HC106_0 := aM_ hl106_0
       clear hi106_0 hl106_0
       replace p106 := eq_true p106
       replace q106 := eq_true q106
       go_wp2_with (first | ((with_reducible refine gate_callee (f := 68) rfl ?_);refine gL_ (some 16) Try.func68 #[.int .i64 ((rd_L4 l0_0 x10_1).length : Int),.int .i64 1,.int .i64 4000] ?_;(with_reducible refine (impl_within.calls ((rd_L4 l0_0 x10_1).length : Int) 1 4000 true _ A7.out).mono ?_);rintro e w' ⟨rfl,⟨nd,rfl⟩⟩;refine ⟨_,rfl,?_⟩))
       go_loopg [20] k1 (fun kq v20 w' => ∃ (x20_2 : Int),v20 = .int .i64 x20_2 ∧ Aside0 (impl_MemoryOk.l1 kq l0_0 (l0_0.length : Int) x10_1 (rd_L4 l0_0 x10_1) ((rd_L4 l0_0 x10_1).length : Int) x20_2 l0_0 = some r) ∧ Aside0 (kq ≤ k1) ∧ Aside0 (w'.heap[gb105]? = some (.cells #[(.slice (some ad106) l0_0.length c0_0)] 24 (0,0))) ∧ Aside0 (Below w.heap.size w w'))
       case atStart => exact ⟨(0),(by first | rfl | (simp;done) | (simp [*];done)),H',⟨Nat.le_refl _⟩,⟨rW_ BK105.out⟩,⟨gW_ HB.out⟩⟩
       case round =>
        clear H'
        try clear c1
        try clear p1
        try clear q1
        try clear hx1
        try clear c2
        try clear p2
        try clear c4
        try clear c4b0
        try clear c5
        try clear c5b0
        try clear c6
        try clear c6b0
        try clear c8
        try clear hcz3_0 hfz3_0
        try clear hx106_0
        try clear p106
        try clear p2
        try clear q106
        obtain ⟨x20_2,rfl,HA,HK2,BK105,HB⟩ := hrel
        cases gk with
        | zero => exact absurd HA.out (by simp [impl_MemoryOk.l1])
        | succ k2 =>
         have H := HA.out
         clear HA
         simp only [impl_MemoryOk.l1] at H
         by_cases c9 : x20_2 < ((rd_L4 l0_0 x10_1).length : Int)
         ·rw [if_pos c9] at H
          have c9b0 : decide (x20_2 < ((rd_L4 l0_0 x10_1).length : Int)) = true := decide_eq_true c9
          clear c9
          by_cases c10 : 0 ≤ x20_2
          ·rw [if_pos c10] at H
           have c10b0 : decide (0 ≤ x20_2) = true := decide_eq_true c10
           clear c10
           by_cases c11 : x20_2 < ((rd_L4 l0_0 x10_1).length : Int)
           ·rw [if_pos c11] at H
            have c11b0 : decide (x20_2 < ((rd_L4 l0_0 x10_1).length : Int)) = true := decide_eq_true c11
            clear c11
            replace H := Option.bind_eq_some_iff.mp H
            obtain ⟨t110,A120,H⟩ := H
            replace H : (if t110 = true then (impl_MemoryOk.l1 k2 l0_0 (l0_0.length : Int) x10_1 (rd_L4 l0_0 x10_1) ((rd_L4 l0_0 x10_1).length : Int) (wrap64 (x20_2 + 1)) l0_0) else (some false)) = some r := H
            have A12 := aM_ A120
            clear A120
            by_cases c13 : t110 = true
            ·subst c13
             have H1 : (impl_MemoryOk.l1 k2 l0_0 (l0_0.length : Int) x10_1 (rd_L4 l0_0 x10_1) ((rd_L4 l0_0 x10_1).length : Int) (wrap64 (x20_2 + 1)) l0_0) = some r := by rw [if_pos rfl] at H;exact H
             clear H
             have H := H1
             clear H1
             have H' := aM_ H
             clear H
             have p108 : 0 ≤ (x20_2 : Int) := of_decide_eq_true (by first | (with_reducible assumption) | assumption)
             have q108 : x20_2 < ((rd_L4 l0_0 x10_1).length : Int) := of_decide_eq_true (by first | (with_reducible assumption) | assumption)
             obtain ⟨ad108,A108_1,c108_1,e108,hx108_0,hx108_1,hl108_1,hi108_1⟩ := at_T43 HR106_0.out x20_2 p108 q108
             cases e108
             replace hx108_0 := cB_ HB.out hx108_0
             replace hx108_1 := cB_ HB.out hx108_1
             have HR108_1 := aM_ hi108_1
             have HC108_1 := aM_ hl108_1
             clear hi108_1 hl108_1
             replace p108 := eq_true p108
             replace q108 := eq_true q108
             go_wp2_with (first | ((with_reducible refine gate_dst (N := 6) rfl ?_);refine bX_ 6 (cs := #[.int .i64 0,.slice none 0 0]) (t := 43) ?_;intro gb109 hg w14 hbox hb;have n0 := aM_ (nB_ BK105.out hb);have n1 := aM_ (sT_ HB.out hb);have n2 := aM_ (hbox);have n3 := aM_ (sZ_ hg HB.out);have n4 := aM_ (sZ_ hg HB.out);have n5 := aM_ (nL_ hg BK105.out);have n6 := aM_ (nG_ hg BK105.out);clear BK105;clear HB;have BK105 := n0;have HB := n1;have BK109 := n2;have GW109 := n3;have GE109 := n4;have NB105_109 := n5;have NB109_105 := n6;clear n0 n1 n2 n3 n4 n5 n6;clear hb hbox hg;have hnb15 := NB109_105.out;have hnc15 := NB105_109.out;obtain ⟨hcz16_0,hcz16_1,hfz16_0,hfz16_1⟩ := bR2_ BK109.out;have hcz17_0 : w14.cell? ⟨gb105,0,none⟩ = some (.slice (some ad106) l0_0.length c0_0) := (blk_cell BK105.out 0).trans rfl;have hfz17_0 := blk_frozen BK105.out 0) | ((with_reducible refine gate_callee (f := 28) rfl ?_);refine gL_ (some 27) Try.func28 #[.agg #[.slice (some ad106) l0_0.length c0_0],.slice A108_1 ((rd_T43 (rd_L4 l0_0 x10_1) x20_2).f1).length c108_1] ?_;(with_reducible refine (impl_ViewOk.calls k2 _ _ l0_0 _ _ ((rd_T43 (rd_L4 l0_0 x10_1) x20_2).f1) true _ ?side1 ?side2 ?side3 ?side4 A12.out).mono ?_);(case side1 => exact Kd.C_below HR0_0.out (gB_ HB.out));(case side2 => exact HC0_0.out);(case side3 => exact Kd.C_below HR108_1.out (gB_ HB.out));(case side4 => exact HC108_1.out);rintro e w18 ⟨rfl,hb⟩;refine ⟨_,rfl,?_⟩;have n0 := aM_ (nBf_ BK105.out hb);have n1 := aM_ (blk_below (g := gb109) (o := .cells #[.int .i64 ((rd_T43 (rd_L4 l0_0 x10_1) x20_2).f0),.slice A108_1 ((rd_T43 (rd_L4 l0_0 x10_1) x20_2).f1).length c108_1] 43 (0,0)) (by (with_reducible repeat (first | refine bN_ ?_ _ | refine bD_ ?_ | refine bA_ ?_ _));refine blk_put (cs := #[.int .i64 ((rd_T43 (rd_L4 l0_0 x10_1) x20_2).f0),.slice none 0 0]) ?_ 1 _ rfl;refine blk_put (cs := #[.int .i64 0,.slice none 0 0]) ?_ 0 _ rfl;exact rW_ BK109.out) hb);have n2 := aM_ (sT_ HB.out hb);clear BK105;clear BK109;clear HB;have BK105 := n0;have BK109 := n1;have HB := n2;clear n0 n1 n2))
             go_roundg k2
             case measure => have := HK1.out;have := HK2.out;omega
             case rel => exact ⟨(wrap64 (x20_2 + 1)),(by first | rfl | (simp;done) | (simp [*];done)),H',⟨by have := HK1.out;have := HK2.out;omega⟩,⟨rW_ BK105.out⟩,⟨gW_ HB.out⟩⟩
            ·replace c13 := Bool.eq_false_iff.mpr c13
             subst c13
             have H1 : (some false) = some r := by rw [if_neg (show ¬ (false = true) by decide)] at H;exact H
             clear H
             have H := H1
             clear H1
             obtain rfl := Option.some.inj H
             have p108 : 0 ≤ (x20_2 : Int) := of_decide_eq_true (by first | (with_reducible assumption) | assumption)
             have q108 : x20_2 < ((rd_L4 l0_0 x10_1).length : Int) := of_decide_eq_true (by first | (with_reducible assumption) | assumption)
             obtain ⟨ad108,A108_1,c108_1,e108,hx108_0,hx108_1,hl108_1,hi108_1⟩ := at_T43 HR106_0.out x20_2 p108 q108
             cases e108
             replace hx108_0 := cB_ HB.out hx108_0
             replace hx108_1 := cB_ HB.out hx108_1
             have HR108_1 := aM_ hi108_1
             have HC108_1 := aM_ hl108_1
             clear hi108_1 hl108_1
             replace p108 := eq_true p108
             replace q108 := eq_true q108
             go_wp2_with (first | ((with_reducible refine gate_dst (N := 6) rfl ?_);refine bX_ 6 (cs := #[.int .i64 0,.slice none 0 0]) (t := 43) ?_;intro gb109 hg w19 hbox hb;have n0 := aM_ (nB_ BK105.out hb);have n1 := aM_ (sT_ HB.out hb);have n2 := aM_ (hbox);have n3 := aM_ (sZ_ hg HB.out);have n4 := aM_ (sZ_ hg HB.out);have n5 := aM_ (nL_ hg BK105.out);have n6 := aM_ (nG_ hg BK105.out);clear BK105;clear HB;have BK105 := n0;have HB := n1;have BK109 := n2;have GW109 := n3;have GE109 := n4;have NB105_109 := n5;have NB109_105 := n6;clear n0 n1 n2 n3 n4 n5 n6;clear hb hbox hg;have hnb20 := NB109_105.out;have hnc20 := NB105_109.out;obtain ⟨hcz21_0,hcz21_1,hfz21_0,hfz21_1⟩ := bR2_ BK109.out;have hcz22_0 : w19.cell? ⟨gb105,0,none⟩ = some (.slice (some ad106) l0_0.length c0_0) := (blk_cell BK105.out 0).trans rfl;have hfz22_0 := blk_frozen BK105.out 0) | ((with_reducible refine gate_callee (f := 28) rfl ?_);refine gL_ (some 27) Try.func28 #[.agg #[.slice (some ad106) l0_0.length c0_0],.slice A108_1 ((rd_T43 (rd_L4 l0_0 x10_1) x20_2).f1).length c108_1] ?_;(with_reducible refine (impl_ViewOk.calls k2 _ _ l0_0 _ _ ((rd_T43 (rd_L4 l0_0 x10_1) x20_2).f1) false _ ?side1 ?side2 ?side3 ?side4 A12.out).mono ?_);(case side1 => exact Kd.C_below HR0_0.out (gB_ HB.out));(case side2 => exact HC0_0.out);(case side3 => exact Kd.C_below HR108_1.out (gB_ HB.out));(case side4 => exact HC108_1.out);rintro e w23 ⟨rfl,hb⟩;refine ⟨_,rfl,?_⟩;have n0 := aM_ (nBf_ BK105.out hb);have n1 := aM_ (blk_below (g := gb109) (o := .cells #[.int .i64 ((rd_T43 (rd_L4 l0_0 x10_1) x20_2).f0),.slice A108_1 ((rd_T43 (rd_L4 l0_0 x10_1) x20_2).f1).length c108_1] 43 (0,0)) (by (with_reducible repeat (first | refine bN_ ?_ _ | refine bD_ ?_ | refine bA_ ?_ _));refine blk_put (cs := #[.int .i64 ((rd_T43 (rd_L4 l0_0 x10_1) x20_2).f0),.slice none 0 0]) ?_ 1 _ rfl;refine blk_put (cs := #[.int .i64 0,.slice none 0 0]) ?_ 0 _ rfl;exact rW_ BK109.out) hb);have n2 := aM_ (sT_ HB.out hb);clear BK105;clear BK109;clear HB;have BK105 := n0;have BK109 := n1;have HB := n2;clear n0 n1 n2))
             go_ret
             exact fI_ HB.out
           ·rw [if_neg c11] at H
            exact absurd H (by simp)
          ·rw [if_neg c10] at H
           exact absurd H (by simp)
         ·rw [if_neg c9] at H
          have c9b0 : decide (x20_2 < ((rd_L4 l0_0 x10_1).length : Int)) = false := decide_eq_false c9
          clear c9
          have H' := aM_ H
          clear H
          go_wp2
          go_roundg k2
          case measure => have := HK1.out;have := HK2.out;omega
          case rel => exact ⟨(wrap64 (x10_1 + 1)),(by first | rfl | (simp;done) | (simp [*];done)),H',⟨by have := HK1.out;have := HK2.out;omega⟩,⟨rW_ BK105.out⟩,⟨gW_ HB.out⟩⟩
      ·replace c8 := Bool.eq_false_iff.mpr c8
       subst c8
       have H1 : (some false) = some r := by rw [if_neg (show ¬ (false = true) by decide)] at H;exact H
       clear H
       have H := H1
       clear H1
       obtain rfl := Option.some.inj H
       have p106 : 0 ≤ (x10_1 : Int) := of_decide_eq_true (by first | (with_reducible assumption) | assumption)
       have q106 : x10_1 < (l0_0.length : Int) := of_decide_eq_true (by first | (with_reducible assumption) | assumption)
       obtain ⟨ad106,A106_0,c106_0,e106,hx106_0,hl106_0,hi106_0⟩ := at_L4 HR0_0.out x10_1 p106 q106
       cases e106
       replace hx106_0 := cB_ HB.out hx106_0
       have HR106_0 := aM_ hi106_0
       have HC106_0 := aM_ hl106_0
       clear hi106_0 hl106_0
       replace p106 := eq_true p106
       replace q106 := eq_true q106
       go_wp2_with (first | ((with_reducible refine gate_callee (f := 68) rfl ?_);refine gL_ (some 16) Try.func68 #[.int .i64 ((rd_L4 l0_0 x10_1).length : Int),.int .i64 1,.int .i64 4000] ?_;(with_reducible refine (impl_within.calls ((rd_L4 l0_0 x10_1).length : Int) 1 4000 false _ A7.out).mono ?_);rintro e w' ⟨rfl,⟨nd,rfl⟩⟩;refine ⟨_,rfl,?_⟩))
       go_ret
       exact fI_ HB.out
     ·rw [if_neg c6] at H
      exact absurd H (by simp)
    ·rw [if_neg c5] at H
     exact absurd H (by simp)
   ·rw [if_neg c4] at H
    have c4b0 : decide (x10_1 < (l0_0.length : Int)) = false := decide_eq_false c4
    clear c4
    obtain rfl := Option.some.inj H
    have hcz24_0 : wr.cell? ⟨gb105,0,none⟩ = some (.slice A0_0 l0_0.length c0_0) := (blk_cell BK105.out 0).trans rfl
    have hfz24_0 := blk_frozen BK105.out 0
    go_wp2
    go_ret
    exact fI_ HB.out
def impl_copyInts.f (l0 : List Int) : Option (List Int) := (some (([] : List Int) : List Int)).bind fun y111 => (if y111.length + l0.length < 17592186044416 then (some (y111 ++ l0)) else (none))
set_option maxHeartbeats 8000000 in
set_option maxRecDepth 100000 in
theorem impl_copyInts.calls (A0 : Option Addr) (c0 : Nat) (l0 : List Int) (r : List Int) (w : World) (hr0 : Kd.C (Kd.int .i64) w A0 l0.length l0) (hc0 : l0.length ≤ c0) (h : impl_copyInts.f l0 = some r) :
  Calls Try.prog 58 #[.slice A0 l0.length c0] w fun e w' => ∃ v0_ : Value,e = .returned (v0_) ∧ Kd.R (Kd.int .i64) 3 w' w.heap.size (fun _ => True) v0_ r ∧ Below w.heap.size w w' := by
 have HR0 := aM_ hr0
 have HC0 := aM_ hc0
 clear hr0 hc0
 have HB := aM_ (Below.refl w.heap.size w)
 have H : ((some (([] : List Int) : List Int)).bind fun y111 => (if y111.length + l0.length < 17592186044416 then (some (y111 ++ l0)) else (none))) = some r := h
 clear h
 obtain ⟨y111,hy111⟩ : ∃ y_ : List Int,y_ = (([] : List Int)) := ⟨_,rfl⟩
 replace H : (if y111.length + l0.length < 17592186044416 then (some (y111 ++ l0)) else (none)) = some r := by first | (rw [hy111];with_reducible exact H) | (have H2_ := (Option.bind_some _ _).symm.trans H;rw [hy111];with_reducible exact H2_) | (have H2_ := (Option.bind_some _ _).symm.trans H;with_reducible exact H2_) | with_reducible exact H | (rw [hy111];exact H) | exact H
 have Ny111 := aM_ hy111
 clear hy111
 by_cases c2 : y111.length + l0.length < 17592186044416
 ·rw [if_pos c2] at H
  have LMc2 := aM_ c2
  clear c2
  obtain ⟨y114,hy114⟩ : ∃ y_ : List Int,y_ = (y111 ++ l0) := ⟨_,rfl⟩
  replace H : (some y114) = some r := by first | (rw [hy114];with_reducible exact H) | (have H2_ := (Option.bind_some _ _).symm.trans H;rw [hy114];with_reducible exact H2_) | (have H2_ := (Option.bind_some _ _).symm.trans H;with_reducible exact H2_) | with_reducible exact H | (rw [hy114];exact H) | exact H
  have Ny114 := aM_ hy114
  clear hy114
  obtain rfl := Option.some.inj H
  go_enter Try.func58,Try.ntmps58
  go_wp2_with (first | ((with_reducible refine gate_dst (N := 3) rfl ?_);refine Kd.R_lit (Kd.int .i64) _ 3 ?hg (N := 3) ?hd (xs := ([] : List Int)) (inner := []) (ok := fun _ => True) (okp := fun _ => True) ?hr ?hp (fun _ hk => hk) trivial (Below.refl _ _) (Nat.le_refl _) (by simp) ?_;(case hd => rfl);(case hg => rfl);(case hr => first | (go_simp;done) | (go_simp;rfl));(case hp => exact (Reps.none _ _));intro v112 w3 ho4 hb hg_ hnew_;clear hg_ hnew_;(first | rw [← Ny111.out] at ho4 | (simp only [Int.reduceToNat] at ho4;rw [← Ny111.out] at ho4));have n0 := aM_ (Kd.R_lower ho4 (below_size (gB_ HB.out)));have n1 := aM_ (sT_ HB.out hb);clear HB;have HO113 := n0;have HB := n1;clear n0 n1;clear hb ho4) | ((with_reducible refine gate_builtin (b := .append) (xs := #[.tmp 3,.tmp 4]) rfl ?_);at_builtin;refine Kd.R_append_rows (Kd.int .i64) (w0 := w) w.heap.size rfl (.tmp 3) (.tmp 4) 31 3 (.int .i64 0) 8 rfl Try.underlying31 info3 rfl (by decide) (by omega) v112 y111 l0 _ _ _ (fun _ => True) (fun _ => False) rfl rfl ?aO ?aR (fun _ _ h => h) (fun _ h => h.elim) ?aF ?aB ?aS ?aL ?_;(case aR => repeat (first | exact (Kd.C_below HR0.out HB.out) | (with_reducible refine Kd.C_alloc ?_ _) | (with_reducible refine Kd.C_drewN ?_ _) | (with_reducible refine Kd.C_drew ?_)));(case aB => exact (gB_ HB.out));(case aF => exact (fun _ _ => trivial));(case aO => exact (by (with_reducible repeat (first | apply rA_ | apply rN_ | apply rD_));exact HO113.out));(case aS => exact (below_size (gB_ HB.out)));(case aL => have := LMc2.out;omega);intro v115 w5 ho hb hg hat;rw [← Ny114.out] at ho;have n0 := aM_ (hb);have n1 := aM_ (ho);clear HB;clear HO113;have HB := n0;have HO116 := n1;clear n0 n1;clear ho hb hg hat))
  go_ret
  exact ⟨_,fR_,by (with_reducible repeat (first | apply rA_ | apply rN_ | apply rD_));exact HO116.out,gB_ HB.out⟩
 ·rw [if_neg c2] at H
  exact absurd H (by simp)
end Go.Proofs.Ythbcnakmnbilhaa.PFnStore
namespace Go.Proofs.Ythbcnakmnbilhaa.Marks
open Go.RowKit Go.Proofs.YthbcnakmnbilhaaW.PrintWords Go.Proofs.YthbcnakmnbilhaaW.PrintLast Go.Proofs.YthbcnakmnbilhaaW.PrintMore
set_option linter.unusedVariables false
def Sc (v v' : Value) : Prop := v' = v ∨ (∃ k n n',v = .int k n ∧ v' = .int k n') ∨ (∃ b b',v = .bool b ∧ v' = .bool b')
theorem Sc.refl (v : Value) : Sc v v := .inl rfl
theorem Sc.trans {a b c : Value} (h : Sc a b) (k : Sc b c) : Sc a c := by
  rcases h with rfl | ⟨_,_,_,rfl,rfl⟩ | ⟨_,_,rfl,rfl⟩
  · exact k
  · rcases k with rfl | ⟨_,_,n',h1,rfl⟩ | ⟨_,_,h1,_⟩
    · exact .inr (.inl ⟨_,_,_,rfl,rfl⟩)
    · cases h1
      exact .inr (.inl ⟨_,_,_,rfl,rfl⟩)
    · cases h1
  · rcases k with rfl | ⟨_,_,_,h1,_⟩ | ⟨_,b',h1,rfl⟩
    · exact .inr (.inr ⟨_,_,rfl,rfl⟩)
    · cases h1
    · exact .inr (.inr ⟨_,_,rfl,rfl⟩)
def Mk (P : Nat → Prop) (w w' : World) : Prop := Kept w w' P ∧ Below 0 w w' ∧ ∀ (g : Nat) (cs : Array Value) (t : TypeId),w.heap[g]? = some (.cells cs t (0,0)) → ∃ cs' : Array Value,w'.heap[g]? = some (.cells cs' t (0,0)) ∧ ∀ (j : Nat) v,cs[j]? = some v → ∃ v',cs'[j]? = some v' ∧ Sc v v'
section
variable {P P' : Nat → Prop} {w w' w1 W : World}
theorem Mk.refl (P : Nat → Prop) (w : World) : Mk P w w := ⟨Kept.refl w P,Below.refl _ _,fun g cs t h => ⟨cs,h,fun j v hj => ⟨v,hj,Sc.refl v⟩⟩⟩
theorem Mk.trans (h : Mk P w w1) (k : Mk P w1 w') : Mk P w w' := by
  refine ⟨h.1.then_ k.1 (fun _ h2 => .inl h2),h.2.1.trans k.2.1,fun g cs t hg => ?_⟩
  obtain ⟨cs1,h1,e1⟩ := h.2.2 g cs t hg
  obtain ⟨cs2,h2,e2⟩ := k.2.2 g cs1 t h1
  refine ⟨cs2,h2,fun j v hj => ?_⟩
  obtain ⟨v1,hv1,s1⟩ := e1 j v hj
  obtain ⟨v2,hv2,s2⟩ := e2 j v1 hv1
  exact ⟨v2,hv2,s1.trans s2⟩
theorem Mk.mono (h : Mk P w w') (hp : ∀ k,P k → P' k) : Mk P' w w' := ⟨h.1.mono hp,h.2⟩
theorem Mk.drewN (h : Mk P w W) (n : Nat) : Mk P w (W.drewN n) := ⟨h.1,pw_below_drewN h.2.1 n,h.2.2⟩
theorem Mk.drew (h : Mk P w W) : Mk P w W.drew := ⟨h.1,below_drew h.2.1,h.2.2⟩
theorem Mk.below (h : Mk P w w') {B : Nat} (hB : B ≤ w.heap.size) (hP : ∀ k,P k → B ≤ k) : Below B w w' := ⟨h.2.1.os,h.2.1.tape,h.2.1.output,h.2.1.size,fun k hk => h.1.2 k (Nat.lt_of_lt_of_le hk hB) (fun hp => by have := hP k hp;omega)⟩
theorem below_set0 (W : World) (a : Addr) (u : Value) : Below 0 W (W.setCell a u) := ⟨rfl,rfl,rfl,by simp [World.setCell],fun k hk => by omega⟩
theorem Mk.of_below (hb : Below w.heap.size w w') : Mk P w w' := ⟨Kept.of_below hb P,hb.mono (Nat.zero_le _),fun g cs t hg => ⟨cs,(hb.block g (blk_lt hg)).trans hg,fun j v hj => ⟨v,hj,Sc.refl v⟩⟩⟩
theorem Mk.set (h : Mk P w W) {g o : Nat} (hP : P g) {v u : Value} (hc : W.cell? ⟨g,o,none⟩ = some v) (hs : Sc v u) : Mk P w (W.setCell ⟨g,o,none⟩ u) := by
  refine ⟨h.1.setCell (.inl hP) u,h.2.1.trans (below_set0 _ _ _),fun g' cs t hg => ?_⟩
  obtain ⟨cs1,h1,e1⟩ := h.2.2 g' cs t hg
  by_cases e : g' = g
  · subst e
    refine ⟨_,blk_set h1 o u,fun j v0 hj => ?_⟩
    obtain ⟨v1,hv1,s1⟩ := e1 j v0 hj
    by_cases ej : j = o
    · subst ej
      have hv : v1 = v := Option.some.inj (hv1.symm.trans ((blk_cell h1 j).symm.trans hc))
      subst hv
      have hlt : j < cs1.size := (Array.getElem?_eq_some_iff.1 hv1).1
      exact ⟨u,by rw [Array.getElem?_setIfInBounds_self];simp [hlt],s1.trans hs⟩
    · exact ⟨v1,by rw [Array.getElem?_setIfInBounds_ne (Ne.symm ej)];exact hv1,s1⟩
  · exact ⟨cs1,(Below.heap_setCell W ⟨g,o,none⟩ u g' e).trans h1,e1⟩
end
def IntAt (w : World) (g o : Nat) : Prop := ∃ (cs : Array Value) (t : TypeId) (n : Int),w.heap[g]? = some (.cells cs t (0,0)) ∧ cs[o]? = some (.int .i64 n)
def BoolAt (w : World) (g o : Nat) : Prop := ∃ (cs : Array Value) (t : TypeId) (b : Bool),w.heap[g]? = some (.cells cs t (0,0)) ∧ cs[o]? = some (.bool b)
def SlAt (w : World) (g o : Nat) (A : Option Addr) (n c : Nat) : Prop := ∃ (cs : Array Value) (t : TypeId),w.heap[g]? = some (.cells cs t (0,0)) ∧ cs[o]? = some (.slice A n c)
section
variable {P : Nat → Prop} {w w' : World} {g o n c : Nat} {A : Option Addr}
theorem IntAt.mk (h : IntAt w g o) (k : Mk P w w') : IntAt w' g o := by
  obtain ⟨cs,t,n,h1,h2⟩ := h
  obtain ⟨cs',h3,e⟩ := k.2.2 g cs t h1
  obtain ⟨v',h4,s⟩ := e o _ h2
  rcases s with rfl | ⟨_,_,n',h5,rfl⟩ | ⟨_,_,h5,_⟩
  · exact ⟨cs',t,n,h3,h4⟩
  · cases h5
    exact ⟨cs',t,n',h3,h4⟩
  · cases h5
theorem BoolAt.mk (h : BoolAt w g o) (k : Mk P w w') : BoolAt w' g o := by
  obtain ⟨cs,t,n,h1,h2⟩ := h
  obtain ⟨cs',h3,e⟩ := k.2.2 g cs t h1
  obtain ⟨v',h4,s⟩ := e o _ h2
  rcases s with rfl | ⟨_,_,n',h5,rfl⟩ | ⟨_,b',h5,rfl⟩
  · exact ⟨cs',t,n,h3,h4⟩
  · cases h5
  · exact ⟨cs',t,b',h3,h4⟩
theorem SlAt.mk (h : SlAt w g o A n c) (k : Mk P w w') : SlAt w' g o A n c := by
  obtain ⟨cs,t,h1,h2⟩ := h
  obtain ⟨cs',h3,e⟩ := k.2.2 g cs t h1
  obtain ⟨v',h4,s⟩ := e o _ h2
  rcases s with rfl | ⟨_,_,n',h5,rfl⟩ | ⟨_,b',h5,rfl⟩
  · exact ⟨cs',t,h3,h4⟩
  · cases h5
  · cases h5
theorem IntAt.cell (h : IntAt w g o) : ∃ n,w.cell? ⟨g,o,none⟩ = some (.int .i64 n) ∧ w.frozen? ⟨g,o,none⟩ = false := by
  obtain ⟨cs,t,n,h1,h2⟩ := h
  exact ⟨n,(blk_cell h1 o).trans h2,blk_frozen h1 o⟩
theorem BoolAt.cell (h : BoolAt w g o) : ∃ n,w.cell? ⟨g,o,none⟩ = some (.bool n) ∧ w.frozen? ⟨g,o,none⟩ = false := by
  obtain ⟨cs,t,n,h1,h2⟩ := h
  exact ⟨n,(blk_cell h1 o).trans h2,blk_frozen h1 o⟩
theorem SlAt.cell (h : SlAt w g o A n c) : w.cell? ⟨g,o,none⟩ = some (.slice A n c) := by
  obtain ⟨cs,t,h1,h2⟩ := h
  exact (blk_cell h1 o).trans h2
end
abbrev Cel := Nat × Nat × Bool
def cellv (b : Bool) (k : Int) : Value := if b = true then .bool (decide (Int.tmod k 3 = 0)) else .int .i64 k
def writes : World → List Cel → Int → World
  | w,[],_ => w
  | w,c :: L,k => writes (w.setCell ⟨c.1,c.2.1,none⟩ (cellv c.2.2 k)) L (k + 1)
theorem writes_append : ∀ (L M : List Cel) (w : World) (k : Int),writes w (L ++ M) k = writes (writes w L k) M (k + L.length)
  | [],M,w,k => by simp [writes]
  | c :: L,M,w,k => by
    rw [List.cons_append,writes,writes,writes_append L M,List.length_cons]
    congr 1
    omega
theorem drewN_set (w : World) (n : Nat) (a : Addr) (v : Value) : (w.drewN n).setCell a v = (w.setCell a v).drewN n := rfl
theorem writes_drewN : ∀ (L : List Cel) (w : World) (n : Nat) (k : Int),writes (w.drewN n) L k = (writes w L k).drewN n
  | [],w,n,k => rfl
  | c :: L,w,n,k => by
    rw [writes,writes,drewN_set,writes_drewN L]
def Wr (w : World) (L : List Cel) (k : Int) (w' : World) : Prop := ∃ n,w' = (writes w L k).drewN n
section
variable {w w' w1 w2 : World} {L M : List Cel} {k k2 : Int}
theorem Wr.refl (w : World) (k : Int) : Wr w [] k w := ⟨0,rfl⟩
theorem Wr.drewN (h : Wr w L k w') (n : Nat) : Wr w L k (w'.drewN n) := by
  obtain ⟨m,rfl⟩ := h
  exact ⟨m + n,World.drewN_drewN ..⟩
theorem Wr.trans (h : Wr w L k w1) (h2 : Wr w1 M k2 w2) (e : k2 = k + L.length) : Wr w (L ++ M) k w2 := by
  obtain ⟨m,rfl⟩ := h
  obtain ⟨n,rfl⟩ := h2
  subst e
  rw [writes_drewN,← writes_append]
  exact ⟨m + n,World.drewN_drewN ..⟩
theorem Wr.set (h : Wr w L k w') {g o : Nat} (b : Bool) {v : Value} (e : v = cellv b (k + L.length)) : Wr w (L ++ [(g,o,b)]) k (w'.setCell ⟨g,o,none⟩ v) :=
  h.trans (k2 := k + L.length) (M := [(g,o,b)]) ⟨0,by subst e;rfl⟩ rfl
end
inductive Ty where
  | int | bool | pair (a b : Ty) | sl (a : Ty)
def Ty.sz : Ty → Nat
  | .int => 1
  | .bool => 1
  | .sl _ => 1
  | .pair a b => a.sz + b.sz
def cat (Ls : Nat → List Cel) (n : Nat) : List Cel := (List.range n).flatMap Ls
theorem cat_succ (Ls : Nat → List Cel) (n : Nat) : cat Ls (n + 1) = cat Ls n ++ Ls n := by simp [cat,List.range_succ]
def Vis (P : Nat → Prop) (w : World) : Ty → Nat → Nat → List Cel → Prop
  | .int,g,o,L => L = [(g,o,false)] ∧ IntAt w g o
  | .bool,g,o,L => L = [(g,o,true)] ∧ BoolAt w g o
  | .pair a b,g,o,L => ∃ L1 L2,L = L1 ++ L2 ∧ Vis P w a g o L1 ∧ Vis P w b g (o + a.sz) L2
  | .sl a,g,o,L => ∃ A n c,SlAt w g o A n c ∧ n ≤ 9223372036854775807 ∧ ∃ Ls,L = cat Ls n ∧ (0 < n → ∃ g',A = some ⟨g',0,none⟩ ∧ P g' ∧ ∀ i,i < n → Vis P w a g' (i * a.sz) (Ls i))
def RowV (P : Nat → Prop) (w : World) (a : Ty) (A : Option Addr) (n : Nat) (L : List Cel) : Prop := n ≤ 9223372036854775807 ∧ ∃ Ls,L = cat Ls n ∧ (0 < n → ∃ g',A = some ⟨g',0,none⟩ ∧ P g' ∧ ∀ i,i < n → Vis P w a g' (i * a.sz) (Ls i))
theorem Vis.mk {P Q : Nat → Prop} {w w' : World} (k : Mk Q w w') : ∀ {t : Ty} {g o : Nat} {L : List Cel},Vis P w t g o L → Vis P w' t g o L
  | .int,g,o,L,h => ⟨h.1,h.2.mk k⟩
  | .bool,g,o,L,h => ⟨h.1,h.2.mk k⟩
  | .pair a b,g,o,L,⟨L1,L2,e,h1,h2⟩ => ⟨L1,L2,e,Vis.mk k h1,Vis.mk k h2⟩
  | .sl a,g,o,L,⟨A,n,c,hs,hb,Ls,e,h⟩ => ⟨A,n,c,hs.mk k,hb,Ls,e,fun hn => by
    obtain ⟨g',e',hp,hi⟩ := h hn
    exact ⟨g',e',hp,fun i hl => Vis.mk k (hi i hl)⟩⟩
theorem RowV.mk {P Q : Nat → Prop} {w w' : World} (k : Mk Q w w') {t : Ty} {A : Option Addr} {n : Nat} {L : List Cel} (h : RowV P w t A n L) : RowV P w' t A n L := by
  obtain ⟨hb,Ls,e,h⟩ := h
  exact ⟨hb,Ls,e,fun hn => by
    obtain ⟨g',e',hp,hi⟩ := h hn
    exact ⟨g',e',hp,fun i hl => Vis.mk k (hi i hl)⟩⟩
def HeldAt (w : World) (L : List Cel) (k : Int) : Prop := ∀ (j : Nat) (c : Cel),L[j]? = some c → w.cell? ⟨c.1,c.2.1,none⟩ = some (cellv c.2.2 (k + j))
section
variable {w w' : World} {L M : List Cel} {k : Int}
theorem HeldAt.left (h : HeldAt w (L ++ M) k) : HeldAt w L k := fun j c hj => h j c (by rw [List.getElem?_append_left (List.getElem?_eq_some_iff.1 hj).1];exact hj)
theorem HeldAt.right (h : HeldAt w (L ++ M) k) : HeldAt w M (k + L.length) := fun j c hj => by
  have := h (L.length + j) c (by rw [List.getElem?_append_right (by omega),Nat.add_sub_cancel_left];exact hj)
  rw [this]
  congr 2
  push_cast
  omega
theorem HeldAt.one {g o : Nat} {b : Bool} (h : HeldAt w [(g,o,b)] k) : w.cell? ⟨g,o,none⟩ = some (cellv b k) := by
  have := h 0 (g,o,b) rfl
  simpa using this
theorem HeldAt.cat {Ls : Nat → List Cel} {n j : Nat} (h : HeldAt w (cat Ls n) k) (hj : j < n) : HeldAt w (Ls j) (k + (Marks.cat Ls j).length) := by
  have e : ∃ T,Marks.cat Ls n = Marks.cat Ls j ++ (Ls j ++ T) := by
    have h1 : ∀ d,∃ T,Marks.cat Ls (j + 1 + d) = Marks.cat Ls (j + 1) ++ T := by
      intro d
      induction d with
      | zero => exact ⟨[],by simp⟩
      | succ d ih =>
        obtain ⟨T,e⟩ := ih
        exact ⟨T ++ Ls (j + 1 + d),by rw [← Nat.add_assoc,cat_succ Ls (j + 1 + d),e,List.append_assoc]⟩
    obtain ⟨T,e⟩ := h1 (n - (j + 1))
    rw [show j + 1 + (n - (j + 1)) = n by omega,cat_succ,List.append_assoc] at e
    exact ⟨T,e⟩
  obtain ⟨T,e⟩ := e
  rw [e] at h
  exact h.right.left
end
theorem RowV.drewN {P : Nat → Prop} {w : World} {t : Ty} {A : Option Addr} {n : Nat} {L : List Cel} (h : RowV P w t A n L) (m : Nat) : RowV P (w.drewN m) t A n L := RowV.mk (Q := fun _ => False) ((Mk.refl _ w).drewN m) h
theorem HeldAt.drewN {w : World} {L : List Cel} {k : Int} (h : HeldAt w L k) (m : Nat) : HeldAt (w.drewN m) L k := h
theorem wrap_in {n : Int} (h0 : -9223372036854775808 ≤ n) (h1 : n ≤ 9223372036854775807) : wrap64 n = n := by
  unfold wrap64
  omega
end Go.Proofs.Ythbcnakmnbilhaa.Marks
namespace Go.Proofs.Ythbcnakmnbilhaa.Marks
open Go.RowKit Go.Proofs.YthbcnakmnbilhaaW.PrintWords Go.Proofs.YthbcnakmnbilhaaW.PrintLast Go.Proofs.YthbcnakmnbilhaaW.PrintMore
set_option linter.unusedVariables false
set_option linter.unusedSimpArgs false
def addr2 (c : Cel) : Nat × Nat := (c.1,c.2.1)
def CellAt (w : World) (g o : Nat) : Prop := ∃ (cs : Array Value) (t : TypeId),w.heap[g]? = some (.cells cs t (0,0)) ∧ o < cs.size
section
variable {P Q : Nat → Prop} {w w' w0 w1 w2 W W' : World} {g o n : Nat} {k k2 : Int} {L M : List Cel} {A : Option Addr} {t : Ty}
theorem CellAt.set (h : CellAt w g o) (b p : Nat) (v : Value) : CellAt (w.setCell ⟨b,p,none⟩ v) g o := by
  obtain ⟨cs,t,h1,h2⟩ := h
  by_cases e : g = b
  · subst e
    exact ⟨_,t,blk_set h1 p v,by simpa using h2⟩
  · exact ⟨cs,t,blk_far h1 (p := ⟨b,p,none⟩) e v,h2⟩
theorem IntAt.at_ (h : IntAt w g o) : CellAt w g o := by
  obtain ⟨cs,t,n,h1,h2⟩ := h
  exact ⟨cs,t,h1,(Array.getElem?_eq_some_iff.1 h2).1⟩
theorem BoolAt.at_ (h : BoolAt w g o) : CellAt w g o := by
  obtain ⟨cs,t,n,h1,h2⟩ := h
  exact ⟨cs,t,h1,(Array.getElem?_eq_some_iff.1 h2).1⟩
theorem CellAt.self (h : CellAt w g o) (v : Value) : (w.setCell ⟨g,o,none⟩ v).cell? ⟨g,o,none⟩ = some v := by
  obtain ⟨cs,t,h1,h2⟩ := h
  rw [blk_cell (blk_set h1 o v) o,Array.getElem?_setIfInBounds_self]
  simp [h2]
theorem writes_other : ∀ (L : List Cel) (w : World) (k : Int) (g o : Nat),(g,o) ∉ L.map addr2 → (writes w L k).cell? ⟨g,o,none⟩ = w.cell? ⟨g,o,none⟩
  | [],w,k,g,o,_ => rfl
  | c :: L,w,k,g,o,h => by
    rw [List.map_cons,List.mem_cons,not_or] at h
    rw [writes,writes_other L _ _ _ _ h.2]
    exact World.cell?_setCell_other (w := w) (a := ⟨c.1,c.2.1,none⟩) (b := ⟨g,o,none⟩) (v := cellv c.2.2 k) (h := fun e => h.1 (by injection e with e1 e2;rw [addr2,e1,e2]))
theorem held_writes : ∀ (L : List Cel) (w : World) (k : Int),(∀ c ∈ L,CellAt w c.1 c.2.1) → (L.map addr2).Nodup → HeldAt (writes w L k) L k
  | [],w,k,_,_ => fun j c hj => by simp at hj
  | c :: L,w,k,hc,hn => by
    rw [List.map_cons,List.nodup_cons] at hn
    intro j d hj
    cases j with
    | zero =>
      have e : d = c := by simpa using hj.symm
      subst e
      rw [writes,writes_other L _ _ d.1 d.2.1 (by exact hn.1),(hc d List.mem_cons_self).self]
      simp
    | succ j =>
      have h2 := held_writes L (w.setCell ⟨c.1,c.2.1,none⟩ (cellv c.2.2 k)) (k + 1) (fun d hd => (hc d (List.mem_cons_of_mem _ hd)).set _ _ _) hn.2 j d (by simpa using hj)
      rw [writes,h2]
      congr 2
      push_cast
      omega
theorem HeldAt.of_heap (h : HeldAt w L k) (hh : ∀ c ∈ L,w'.heap[c.1]? = w.heap[c.1]?) : HeldAt w' L k := fun j c hj => by
  have := hh c (List.mem_of_getElem? hj)
  rw [← h j c hj]
  simp [World.cell?,this]
theorem set_heap (w w' : World) (a : Addr) (v : Value) (g : Nat) (h : w.heap[g]? = w'.heap[g]?) : (w.setCell a v).heap[g]? = (w'.setCell a v).heap[g]? := by
  simp only [World.setCell,Array.getElem?_modify,h]
theorem writes_local : ∀ (L : List Cel) (w w' : World) (k : Int) (g : Nat),w.heap[g]? = w'.heap[g]? → (writes w L k).heap[g]? = (writes w' L k).heap[g]?
  | [],w,w',k,g,h => h
  | c :: L,w,w',k,g,h => by
    rw [writes,writes]
    exact writes_local L _ _ _ g (set_heap _ _ _ _ _ h)
def WrB (w : World) (L : List Cel) (k : Int) (w' : World) : Prop := ∀ g,g < w.heap.size → w'.heap[g]? = (writes w L k).heap[g]?
theorem Wr.B (h : Wr w L k w') : WrB w L k w' := by
  obtain ⟨n,rfl⟩ := h
  exact fun g _ => rfl
theorem WrB.nil (hb : Below w.heap.size w w') : WrB w [] k w' := fun g hg => hb.block g hg
theorem WrB.trans (h : WrB w L k w1) (hs : w.heap.size ≤ w1.heap.size) (h2 : WrB w1 M k2 w2) (e : k2 = k + L.length) : WrB w (L ++ M) k w2 := fun g hg => by
  rw [h2 g (Nat.lt_of_lt_of_le hg hs),writes_append,e]
  exact writes_local M _ _ _ g (h g hg)
theorem WrB.held (h : WrB w L k w') (hc : ∀ c ∈ L,CellAt w c.1 c.2.1) (hn : (L.map addr2).Nodup) : HeldAt w' L k :=
  (held_writes L w k hc hn).of_heap (fun c hm => by
    obtain ⟨cs,t,h1,_⟩ := hc c hm
    exact h c.1 (blk_lt h1))
theorem Vis.cells : ∀ {t : Ty} {g o : Nat} {L : List Cel},Vis P w t g o L → ∀ c ∈ L,CellAt w c.1 c.2.1 ∧ (c.1 = g ∨ P c.1)
  | .int,g,o,L,h,c,hm => by
    obtain ⟨rfl,h2⟩ := h
    obtain rfl := List.mem_singleton.1 hm
    exact ⟨h2.at_,.inl rfl⟩
  | .bool,g,o,L,h,c,hm => by
    obtain ⟨rfl,h2⟩ := h
    obtain rfl := List.mem_singleton.1 hm
    exact ⟨h2.at_,.inl rfl⟩
  | .pair a b,g,o,L,⟨L1,L2,e,h1,h2⟩,c,hm => by
    subst e
    rcases List.mem_append.1 hm with hm | hm
    · exact Vis.cells h1 c hm
    · exact Vis.cells h2 c hm
  | .sl a,g,o,L,⟨A,n,cp,hs,hb,Ls,e,h⟩,c,hm => by
    subst e
    obtain ⟨i,hi,hm⟩ := List.mem_flatMap.1 hm
    rw [List.mem_range] at hi
    obtain ⟨g',e',hp,hv⟩ := h (by omega)
    obtain ⟨h1,h2⟩ := Vis.cells (hv i hi) c hm
    exact ⟨h1,.inr (h2.elim (fun e => e ▸ hp) id)⟩
theorem RowV.cells (h : RowV P w t A n L) : ∀ c ∈ L,CellAt w c.1 c.2.1 ∧ P c.1 := fun c hm => by
  obtain ⟨hb,Ls,e,h⟩ := h
  subst e
  obtain ⟨i,hi,hm⟩ := List.mem_flatMap.1 hm
  rw [List.mem_range] at hi
  obtain ⟨g',e',hp,hv⟩ := h (by omega)
  obtain ⟨h1,h2⟩ := Vis.cells (hv i hi) c hm
  exact ⟨h1,h2.elim (fun e => e ▸ hp) id⟩
theorem Vis.mono (hp : ∀ k,P k → Q k) : ∀ {t : Ty} {g o : Nat} {L : List Cel},Vis P w t g o L → Vis Q w t g o L
  | .int,_,_,_,h => h
  | .bool,_,_,_,h => h
  | .pair a b,_,_,_,⟨L1,L2,e,h1,h2⟩ => ⟨L1,L2,e,Vis.mono hp h1,Vis.mono hp h2⟩
  | .sl a,_,_,_,⟨A,n,c,hs,hb,Ls,e,h⟩ => ⟨A,n,c,hs,hb,Ls,e,fun hn => by
    obtain ⟨g',e',hp',hi⟩ := h hn
    exact ⟨g',e',hp _ hp',fun i hl => Vis.mono hp (hi i hl)⟩⟩
theorem RowV.mono (hp : ∀ k,P k → Q k) (h : RowV P w t A n L) : RowV Q w t A n L := by
  obtain ⟨hb,Ls,e,h⟩ := h
  exact ⟨hb,Ls,e,fun hn => by
    obtain ⟨g',e',hp',hi⟩ := h hn
    exact ⟨g',e',hp _ hp',fun i hl => Vis.mono hp (hi i hl)⟩⟩
end
structure Rep {α : Type} (d : Kd α) (T : Ty) (wt : α → Nat) : Prop where
  sz : d.sz = T.sz
  vis : ∀ {w : World} {base : Nat} {ok : Nat → Prop} {x : α} {cs : List Value},d.M w base ok x cs → ∀ (g o : Nat) (cells : Array Value) (t : TypeId),w.heap[g]? = some (.cells cells t (0,0)) → (∀ i u,cs[i]? = some u → cells[o + i]? = some u) → ∃ L,Vis ok w T g o L ∧ L.length = wt x
theorem Rep.int : Rep (Kd.int .i64) .int (fun _ => 1) := ⟨rfl,fun {w base ok x cs} hM g o cells t hb hc => by
  have e : cs = [.int .i64 x] := hM
  subst e
  exact ⟨_,⟨rfl,cells,t,x,hb,by simpa using hc 0 _ rfl⟩,rfl⟩⟩
theorem Rep.bool : Rep Kd.bool .bool (fun _ => 1) := ⟨rfl,fun {w base ok x cs} hM g o cells t hb hc => by
  have e : cs = [.bool x] := hM
  subst e
  exact ⟨_,⟨rfl,cells,t,x,hb,by simpa using hc 0 _ rfl⟩,rfl⟩⟩
theorem Rep.pair {α β : Type} {a : Kd α} {b : Kd β} {S T : Ty} {wa : α → Nat} {wb : β → Nat} (ha : Rep a S wa) (hb : Rep b T wb) : Rep (Kd.pair a b) (.pair S T) (fun x => wa x.1 + wb x.2) :=
  ⟨by show a.sz + b.sz = S.sz + T.sz;rw [ha.sz,hb.sz],fun {w base ok x cs} hM g o cells t hbk hc => by
    obtain ⟨c0,c1,rfl,h0,h1⟩ := hM
    have l0 : c0.length = S.sz := by rw [a.K_len (a.K_of_M h0),ha.sz]
    obtain ⟨L1,v1,e1⟩ := ha.vis h0 g o cells t hbk (fun i u hi => hc i u (by rw [List.getElem?_append_left (List.getElem?_eq_some_iff.1 hi).1];exact hi))
    obtain ⟨L2,v2,e2⟩ := hb.vis h1 g (o + S.sz) cells t hbk (fun i u hi => by
      have := hc (S.sz + i) u (by rw [List.getElem?_append_right (by omega),l0,Nat.add_sub_cancel_left];exact hi)
      rwa [← Nat.add_assoc] at this)
    exact ⟨L1 ++ L2,⟨L1,L2,rfl,v1,v2⟩,by rw [List.length_append,e1,e2]⟩⟩
theorem Rep.iso {α β : Type} {d : Kd α} {T : Ty} {wt : α → Nat} (h : Rep d T wt) (f : β → α) : Rep (Kd.iso d f) T (fun x => wt (f x)) := ⟨h.sz,fun {w base ok x cs} hM => h.vis hM⟩
def wsum {α : Type} (wt : α → Nat) : List α → Nat
  | [] => 0
  | x :: r => wt x + wsum wt r
theorem cat_len {α : Type} (wt : α → Nat) : ∀ (xs : List α) (Ls : Nat → List Cel),(∀ i x,xs[i]? = some x → (Ls i).length = wt x) → (cat Ls xs.length).length = wsum wt xs := by
  intro xs Ls h
  have key : ∀ n,n ≤ xs.length → (cat Ls n).length = wsum wt (xs.take n) := by
    intro n
    induction n with
    | zero => intro _;simp [cat,wsum]
    | succ n ih =>
      intro hn
      have hw : ∀ (a b : List α),wsum wt (a ++ b) = wsum wt a + wsum wt b := by
        intro a b
        induction a with
        | nil => simp [wsum]
        | cons y r ih => rw [List.cons_append,wsum,wsum,ih];omega
      rw [cat_succ,List.length_append,ih (by omega),List.take_succ_eq_append_getElem (show n < xs.length by omega),hw,h n xs[n] (List.getElem?_eq_getElem (by omega))]
      simp [wsum]
  rw [key xs.length (Nat.le_refl _),List.take_length]
theorem Rep.row {α : Type} {d : Kd α} {T : Ty} {wt : α → Nat} (h : Rep d T wt) {e : Nat} {w : World} {base : Nat} {ok : Nat → Prop} {v : Value} {xs : List α} (hR : d.R e w base ok v xs) :
    ∃ A c L,v = .slice A xs.length c ∧ RowV ok w T A xs.length L ∧ L.length = wsum wt xs := by
  obtain ⟨h0,inner,ho,hr⟩ := hR
  have ho2 := ho.2
  rcases ho2 with ⟨rfl,hn⟩ | ⟨g,cap,cur,rfl,hg,hh,hcap,hmax,hsz,htk⟩
  · obtain rfl := List.eq_nil_of_length_eq_zero hn
    exact ⟨none,0,[],rfl,⟨by simp,fun _ => [],rfl,fun h => absurd h (by simp)⟩,rfl⟩
  · have hmx : xs.length ≤ 9223372036854775807 := by have : cap ≤ 9223372036854775807 := hmax;omega
    have key : ∀ i x,xs[i]? = some x → ∃ L,Vis ok w T g (i * T.sz) L ∧ L.length = wt x := fun i x hi => by
      have hM := hr.2 i x hi
      have hil : i < xs.length := (List.getElem?_eq_some_iff.1 hi).1
      have hM2 := d.M_mono (ok' := ok) (fun k hk => hk.1) hM
      obtain ⟨L,v1,e1⟩ := h.vis hM2 g (i * T.sz) cur e hh (fun j u hj => by
        have hjl : j < d.sz := by
          have := (List.getElem?_eq_some_iff.1 hj).1
          rw [List.length_take] at this
          omega
        rw [List.getElem?_take,if_pos hjl,List.getElem?_drop,← htk] at hj
        have hlt : i * d.sz + j < xs.length * d.sz := by
          have : (i + 1) * d.sz ≤ xs.length * d.sz := Nat.mul_le_mul_right _ hil
          rw [Nat.add_mul,Nat.one_mul] at this
          omega
        rw [List.getElem?_take,if_pos hlt,Array.getElem?_toList] at hj
        rw [← h.sz]
        exact hj)
      exact ⟨L,v1,e1⟩
    classical
    have : ∃ Ls : Nat → List Cel,∀ i x,xs[i]? = some x → Vis ok w T g (i * T.sz) (Ls i) ∧ (Ls i).length = wt x := by
      refine ⟨fun i => if h : ∃ x,xs[i]? = some x then (key i h.choose h.choose_spec).choose else [],fun i x hi => ?_⟩
      have hex : ∃ x,xs[i]? = some x := ⟨x,hi⟩
      have ex : hex.choose = x := Option.some.inj (hex.choose_spec.symm.trans hi)
      simp only [dif_pos hex]
      have hs := (key i hex.choose hex.choose_spec).choose_spec
      exact ⟨hs.1,by rw [hs.2,ex]⟩
    obtain ⟨Ls,hLs⟩ := this
    refine ⟨some ⟨g,0,none⟩,cap,cat Ls xs.length,rfl,⟨hmx,Ls,rfl,fun _ => ⟨g,rfl,h0 g rfl,fun i hi => (hLs i xs[i] (List.getElem?_eq_getElem hi)).1⟩⟩,cat_len wt xs Ls (fun i x hi => (hLs i x hi).2)⟩
theorem Rep.slice {α : Type} {d : Kd α} {T : Ty} {wt : α → Nat} (h : Rep d T wt) (e : Nat) : Rep (Kd.slice e d) (.sl T) (wsum wt) :=
  ⟨rfl,fun {w base ok x cs} hM g o cells t hb hc => by
    obtain ⟨v,rfl,hR⟩ := hM
    obtain ⟨A,c,L,rfl,⟨hmx,Ls,e1,hrow⟩,hl⟩ := h.row hR
    exact ⟨L,⟨A,x.length,c,⟨cells,t,hb,by simpa using hc 0 _ rfl⟩,hmx,Ls,e1,hrow⟩,hl⟩⟩
end Go.Proofs.Ythbcnakmnbilhaa.Marks
namespace Go.Proofs.Ythbcnakmnbilhaa.LawKit
open Go.RowKit Go.Proofs.YthbcnakmnbilhaaW.PrintWords Go.Proofs.YthbcnakmnbilhaaW.PrintLast Go.Proofs.YthbcnakmnbilhaaW.PrintMore Go.Proofs.Ythbcnakmnbilhaa.Marks
set_option linter.unusedVariables false
set_option linter.unusedSimpArgs false
def St (lo hi : Nat) (Q : World → Prop) (W : World) : Prop := hi ≤ W.heap.size ∧ ∀ W' : World,(∀ g,lo ≤ g → g < hi → W'.heap[g]? = W.heap[g]?) → Q W'
section
variable {lo hi g o : Nat} {Q : World → Prop} {W W' : World} {P : Nat → Prop}
theorem St.now (h : St lo hi Q W) : Q W := h.2 W (fun _ _ _ => rfl)
theorem St.keep (h : St lo hi Q W) (hs : W.heap.size ≤ W'.heap.size) (hk : ∀ g,lo ≤ g → g < hi → W'.heap[g]? = W.heap[g]?) : St lo hi Q W' :=
  ⟨Nat.le_trans h.1 hs,fun W2 h2 => h.2 W2 (fun g h3 h4 => (h2 g h3 h4).trans (hk g h3 h4))⟩
theorem St.below (h : St lo hi Q W) (hb : Below W.heap.size W W') : St lo hi Q W' := h.keep hb.size (fun g _ h4 => hb.block g (Nat.lt_of_lt_of_le h4 h.1))
theorem St.drew (h : St lo hi Q W) : St lo hi Q W.drew := h.keep (Nat.le_refl _) (fun _ _ _ => rfl)
theorem St.drewN (h : St lo hi Q W) (n : Nat) : St lo hi Q (W.drewN n) := h.keep (Nat.le_refl _) (fun _ _ _ => rfl)
theorem St.set (h : St lo hi Q W) (hg : hi ≤ g) (v : Value) : St lo hi Q (W.setCell ⟨g,o,none⟩ v) :=
  h.keep (by simp [World.setCell]) (fun k _ h4 => Below.heap_setCell W ⟨g,o,none⟩ v k (by show k ≠ g;omega))
end
section
variable {α : Type} {d : Kd α} {e lo hi : Nat} {W : World} {A : Option Addr} {n c : Nat} {xs : List α}
theorem St.reads (h : St lo hi (fun w => Kd.R d e w lo (fun k => lo ≤ k ∧ k < hi) (.slice A xs.length c) xs) W) : d.C W A xs.length xs := (Kd.R_reads' h.now).2.2
end
end Go.Proofs.Ythbcnakmnbilhaa.LawKit
