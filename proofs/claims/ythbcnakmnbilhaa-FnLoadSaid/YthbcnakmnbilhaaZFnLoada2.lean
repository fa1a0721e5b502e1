/- A part of the proof that the law FnLoad holds for every input: the words, functions and walks that its row needs, without a condition of their own. -/
import Derived.Test.YthbcnakmnbilhaaProg
import Derived.Below
import Derived.Deep.Draws
import Derived.Deep.AppendLies
import Derived.Maps.AppendAt
import Derived.OwnWalk
import Derived.Laws.BytesArg
import Derived.Laws.MakeOwn
import Derived.Laws.OwnMore
import Derived.Deep.OwnRows
import Derived.Tactics
import Derived.Lib.ConvBytes
import Derived.Laws.Slices
import Derived.WalkKit
import Derived.KernelRfl
import Derived.RowKit3
import Derived.Deep.LoopGhost
import Derived.Deep.QuietTactic
import Derived.BigQuiet
import Derived.WideLaws
import Derived.Deep.DeepCutAuto
import Derived.Deep.CutBlock
import Derived.Deep.RegionHeld3
import Derived.Laws.Rows
import Derived.Lib.AppendStr
import Derived.ArgAppend
import Derived.Laws.IdiomCopy
import Derived.OrdersHeld
import Derived.Laws.BitsLemmas
import Derived.RowKit
import Derived.Laws.StructEq
import Derived.Test.YthbcnakmnbilhaaZFnLoada0
import Derived.Test.YthbcnakmnbilhaaZFnLoada1
import Derived.Test.YthbcnakmnbilhaaZFnLoads
namespace Go.Proofs.Ythbcnakmnbilhaa.PFnLoad
open Go.RowKit Go.Proofs.YthbcnakmnbilhaaW.PrintWords Go.Proofs.YthbcnakmnbilhaaW.PrintLast Go.Proofs.YthbcnakmnbilhaaW.PrintMore
attribute [local go_sem] max2_int min2_int max_two min_two max_three min_three max_four min_four   -- for this text's walks alone
set_option linter.unusedVariables false
set_option linter.unusedSimpArgs false
def errW : Option Int → Value
  | none => .nilIface
  | some c => .iface 0 (.int .i64 c)
theorem errW_none : errW none = .nilIface := rfl
theorem errW_some (c : Int) : errW (some c) = .iface 0 (.int .i64 c) := rfl
theorem info3 : (Try.prog.info? 3).map (fun i => (i.zero,i.size,i.bytes)) = some (some (.int .i64 0),1,8) := by kernel_rfl
theorem info43 : (Try.prog.info? 43).map (fun i => (i.zero,i.size,i.bytes)) = some (some (.agg #[(.int .i64 0),(.slice none 0 0)]),2,32) := by kernel_rfl
theorem info44 : (Try.prog.info? 44).map (fun i => (i.zero,i.size,i.bytes)) = some (some (.slice none 0 0),1,24) := by kernel_rfl
structure S43 where
  f0 : Int
  f1 : (List Int)
def z43 : S43 := ⟨(0 : Int),([] : List Int)⟩
def k43 : Kd S43 := Kd.iso (Kd.pair (Kd.int .i64) (Kd.slice 3 (Kd.int .i64))) (fun x : S43 => (x.f0,x.f1))
theorem k43_open {w : World} {x : S43} {cs : List Value} (h : k43.K w x cs) : ∃ A1 c1,cs = [.int .i64 x.f0,.slice A1 x.f1.length c1] ∧ x.f1.length ≤ c1 ∧ (Kd.int .i64).C w A1 x.f1.length x.f1 := by
 obtain ⟨_,_,rfl,rfl,⟨A1,c1,rfl,l1,g1⟩⟩ := h
 exact ⟨A1,c1,rfl,l1,g1⟩
theorem k43_openM {w : World} {base : Nat} {ok : Nat → Prop} {x : S43} {cs : List Value} (h : k43.M w base ok x cs) : ∃ v1,cs = [.int .i64 x.f0,v1] ∧ (Kd.int .i64).R 3 w base ok v1 x.f1 := by
 obtain ⟨_,_,rfl,rfl,⟨v1,rfl,g1⟩⟩ := h
 exact ⟨v1,rfl,g1⟩
theorem k43_mkM (w : World) (base : Nat) (ok : Nat → Prop) (x : S43) {v1 : Value} (g1 : (Kd.int .i64).R 3 w base ok v1 x.f1) : k43.M w base ok x [.int .i64 x.f0,v1] := ⟨[.int .i64 x.f0],[v1],rfl,rfl,⟨v1,rfl,g1⟩⟩
theorem k43_openF {W : World} {ok : Nat → Prop} {x : S43} {cs : List Value} (h : Kd.FK k43 W ok x cs) : ∃ A1 c1,cs = [.int .i64 x.f0,.slice A1 x.f1.length c1] ∧ x.f1.length ≤ c1 ∧ Kd.F (Kd.int .i64) W ok A1 x.f1.length x.f1 := by
 obtain ⟨A1,c1,rfl,l1,_⟩ := k43_open (Kd.FK_now h)
 exact ⟨A1,c1,rfl,l1,(fun W' hW => by obtain ⟨A1_,c1_,he,l1_,g1_⟩ := k43_open (h W' hW);injection (Option.some.inj (show some (Value.slice A1 x.f1.length c1) = some (Value.slice A1_ x.f1.length c1_) from congrArg (fun l => l[1]?) he)) with ha_ _ _;rw [ha_];exact g1_)⟩
def rd_T43 (xs : List S43) (i : Int) : S43 := xs.getD i.toNat z43
theorem at_T43 {w : World} {A : Option Addr} {n : Nat} {xs : List S43} (h : Kd.C k43 w A n xs) (i : Int) (h0 : 0 ≤ i) (h1 : i < n) : ∃ ad A1 c1,A = some ad ∧ w.cell? (ad.add (i.toNat * 2)) = some (.int .i64 (rd_T43 xs i).f0) ∧ w.cell? ⟨(ad.add (i.toNat * 2)).block,(ad.add (i.toNat * 2)).off + 1,none⟩ = some (.slice A1 (rd_T43 xs i).f1.length c1) ∧ (rd_T43 xs i).f1.length ≤ c1 ∧ (Kd.int .i64).C w A1 (rd_T43 xs i).f1.length (rd_T43 xs i).f1 := by
 obtain ⟨ad,c,e,_,hK,hc0⟩ := Kd.C_get h z43 i h0 h1
 have hc : ∀ j u,c[j]? = some u → w.cell? (ad.add (i.toNat * 2 + j)) = some u := hc0
 obtain ⟨A1,c1,rfl,l1,g1⟩ := k43_open hK
 exact ⟨ad,A1,c1,e,hc 0 _ rfl,by rw [← add_field _ _ 1 (by omega)];exact hc 1 _ rfl,l1,g1⟩
def rd_L4 (xs : List (List S43)) (i : Int) : (List S43) := xs.getD i.toNat ([] : List S43)
theorem at_L4 {w : World} {A : Option Addr} {n : Nat} {xs : List (List S43)} (h : Kd.C (Kd.slice 43 k43) w A n xs) (i : Int) (h0 : 0 ≤ i) (h1 : i < n) : ∃ ad A0 c0,A = some ad ∧ w.cell? (ad.add i.toNat) = some (.slice A0 (rd_L4 xs i).length c0) ∧ (rd_L4 xs i).length ≤ c0 ∧ k43.C w A0 (rd_L4 xs i).length (rd_L4 xs i) := by
 obtain ⟨ad,c,e,_,hK,hc0⟩ := Kd.C_get h ([] : List S43) i h0 h1
 have hc : ∀ j u,c[j]? = some u → w.cell? (ad.add (i.toNat * 1 + j)) = some u := hc0
 obtain ⟨A0,c0,rfl,l0,g0⟩ := hK
 exact ⟨ad,A0,c0,e,by have hq := hc 0 _ rfl;rwa [Nat.mul_one,Nat.add_zero] at hq,l0,g0⟩
end Go.Proofs.Ythbcnakmnbilhaa.PFnLoad
namespace Go.Proofs.Ythbcnakmnbilhaa.PFnLoad
open Go.RowKit Go.Proofs.YthbcnakmnbilhaaW.PrintWords Go.Proofs.YthbcnakmnbilhaaW.PrintLast Go.Proofs.YthbcnakmnbilhaaW.PrintMore
attribute [local go_sem] max2_int min2_int max_two min_two max_three min_three max_four min_four   -- for this text's walks alone
set_option linter.unusedVariables false
set_option linter.unusedSimpArgs false
def laws_big.f (l0 : List Int) : Option (Bool) := some (decide ((l0.length : Int) > 1048576))
set_option maxHeartbeats 8000000 in
set_option maxRecDepth 100000 in
theorem laws_big.calls (A0 : Option Addr) (c0 : Nat) (l0 : List Int) (r : Bool) (w : World) (hr0 : Kd.C (Kd.int .u8) w A0 l0.length l0) (hc0 : l0.length ≤ c0) (h : laws_big.f l0 = some r) :
  Calls Try.prog 18 #[.slice A0 l0.length c0] w fun e w' => e = .returned (.bool r) ∧ Drawn0 w w' := by
 have HR0 := aM_ hr0
 have HC0 := aM_ hc0
 clear hr0 hc0
 have H : (some (decide ((l0.length : Int) > 1048576))) = some r := h
 clear h
 obtain rfl := Option.some.inj H
 go_enter Try.func18,Try.ntmps18
 go_wp2
 go_ret
 exact ⟨by first | rfl | (simp;done) | (simp [*];done),by repeat (first | exact Drawn0.refl _ | apply Drawn0.step)⟩
def impl_within.f (a0 : Int) (a1 : Int) (a2 : Int) : Option (Bool) := if a0 ≥ a1 then (some (decide (a0 ≤ a2))) else (some false)
set_option maxHeartbeats 8000000 in
set_option maxRecDepth 100000 in
theorem impl_within.calls (a0 : Int) (a1 : Int) (a2 : Int) (r : Bool) (w : World) (h : impl_within.f a0 a1 a2 = some r) :
  Calls Try.prog 68 #[.int .i64 a0,.int .i64 a1,.int .i64 a2] w fun e w' => e = .returned (.bool r) ∧ Drawn0 w w' := by
 have H : (if a0 ≥ a1 then (some (decide (a0 ≤ a2))) else (some false)) = some r := h
 clear h
 by_cases c4 : a0 ≥ a1
 ·rw [if_pos c4] at H
  have c4b0 : decide (a1 ≤ a0) = true := decide_eq_true c4
  clear c4
  obtain rfl := Option.some.inj H
  go_enter Try.func68,Try.ntmps68
  go_wp2
  go_ret
  exact ⟨by first | rfl | (simp;done) | (simp [*];done),by repeat (first | exact Drawn0.refl _ | apply Drawn0.step)⟩
 ·rw [if_neg c4] at H
  have c4b0 : decide (a1 ≤ a0) = false := decide_eq_false c4
  clear c4
  obtain rfl := Option.some.inj H
  go_enter Try.func68,Try.ntmps68
  go_wp2
  go_ret
  exact ⟨by first | rfl | (simp;done) | (simp [*];done),by repeat (first | exact Drawn0.refl _ | apply Drawn0.step)⟩
def impl_ViewOk.l0 : Nat → List Int → Int → Int → List (List (S43)) → Option (Bool)
  | 0,_,_,_,_ => none
  | k + 1,x13,x14,x15,x102000 => if x15 < x14 then (if 0 ≤ x15 then (if x15 < (x13.length : Int) then (if x15 < (x102000.length : Int) then ((impl_within.f (rd x13 x15) 0 (wrap64 (((rd_L4 x102000 x15).length : Int) - 1))).bind fun t104 => (if t104 = true then (impl_ViewOk.l0 k x13 x14 (wrap64 (x15 + 1)) x102000) else (some false))) else (none)) else (none)) else (none)) else (some true)
def impl_ViewOk.f (k : Nat) (l0_0 : List (List (S43))) (l1 : List Int) : Option (Bool) := if (l1.length : Int) = (l0_0.length : Int) then (impl_ViewOk.l0 k l1 (l1.length : Int) 0 l0_0) else (some false)
set_option maxHeartbeats 8000000 in
set_option maxRecDepth 100000 in
theorem impl_ViewOk.calls (k : Nat) (A0_0 : Option Addr) (c0_0 : Nat) (l0_0 : List (List (S43))) (A1 : Option Addr) (c1 : Nat) (l1 : List Int) (r : Bool) (w : World) (hr0_0 : Kd.C (Kd.slice 43 k43) w A0_0 l0_0.length l0_0) (hc0_0 : l0_0.length ≤ c0_0) (hr1 : Kd.C (Kd.int .i64) w A1 l1.length l1) (hc1 : l1.length ≤ c1) (h : impl_ViewOk.f k l0_0 l1 = some r) :
  Calls Try.prog 28 #[.agg #[.slice A0_0 l0_0.length c0_0],.slice A1 l1.length c1] w fun e w' => e = .returned (.bool r) ∧ Below w.heap.size w w' := by
 have hu24 := Try.underlying24
 have HR0_0 := aM_ hr0_0
 have HC0_0 := aM_ hc0_0
 clear hr0_0 hc0_0
 have HR1 := aM_ hr1
 have HC1 := aM_ hc1
 clear hr1 hc1
 have HB := aM_ (Below.refl w.heap.size w)
 have H : (if (l1.length : Int) = (l0_0.length : Int) then (impl_ViewOk.l0 k l1 (l1.length : Int) 0 l0_0) else (some false)) = some r := h
 clear h
 by_cases c3 : (l1.length : Int) = (l0_0.length : Int)
 ·rw [if_pos c3] at H
  have c3b0 : ((l1.length : Int) == (l0_0.length : Int)) = true := beq_iff_eq.mpr c3
  have c3b1 : ((l1.length : Int) != (l0_0.length : Int)) = false := bne_eq_false_iff_eq.mpr c3
  have c3b2 : (l1.length == l0_0.length) = true := by first | simpa using c3 | (simp at c3 ⊢;omega)
  clear c3
  have H' := aM_ H
  clear H
  go_enter Try.func28,Try.ntmps28
  go_wp2_with (first | ((with_reducible refine gate_dst (N := 2) rfl ?_);refine bX_ 2 (cs := #[.slice A0_0 l0_0.length c0_0]) (t := 24) ?_;intro gb101 hg w4 hbox hb;have n0 := aM_ (sT_ HB.out hb);have n1 := aM_ (hbox);have n2 := aM_ (sZ_ hg HB.out);have n3 := aM_ (sZ_ hg HB.out);clear HB;have HB := n0;have BK101 := n1;have GW101 := n2;have GE101 := n3;clear n0 n1 n2 n3;clear hb hbox hg;have hcz5_0 : w4.cell? ⟨gb101,0,none⟩ = some (.slice A0_0 l0_0.length c0_0) := (blk_cell BK101.out 0).trans rfl;have hfz5_0 := blk_frozen BK101.out 0))
  go_loopg [15] k (fun kq v15 w' => ∃ (x15_1 : Int),v15 = .int .i64 x15_1 ∧ Aside0 (impl_ViewOk.l0 kq l1 (l1.length : Int) x15_1 l0_0 = some r) ∧ Aside0 (kq ≤ k) ∧ Aside0 (w'.heap[gb101]? = some (.cells #[(.slice A0_0 l0_0.length c0_0)] 24 (0,0))) ∧ Aside0 (Below w.heap.size w w'))
  case atStart => exact ⟨(0),(by first | rfl | (simp;done) | (simp [*];done)),H',⟨Nat.le_refl _⟩,⟨rW_ BK101.out⟩,⟨gW_ HB.out⟩⟩
  case round =>
   clear H'
   try clear c1
   try clear c2
   try clear p2
   try clear c3
   try clear c3b0
   try clear c3b1
   try clear c3b2
   try clear hcz5_0 hfz5_0
   obtain ⟨x15_1,rfl,HA,HK1,BK101,HB⟩ := hrel
   cases gk with
   | zero => exact absurd HA.out (by simp [impl_ViewOk.l0])
   | succ k1 =>
    have H := HA.out
    clear HA
    simp only [impl_ViewOk.l0] at H
    by_cases c6 : x15_1 < (l1.length : Int)
    ·rw [if_pos c6] at H
     have c6b0 : decide (x15_1 < (l1.length : Int)) = true := decide_eq_true c6
     clear c6
     by_cases c7 : 0 ≤ x15_1
     ·rw [if_pos c7] at H
      have c7b0 : decide (0 ≤ x15_1) = true := decide_eq_true c7
      clear c7
      by_cases c8 : x15_1 < (l1.length : Int)
      ·rw [if_pos c8] at H
       have c8b0 : decide (x15_1 < (l1.length : Int)) = true := decide_eq_true c8
       clear c8
       by_cases c9 : x15_1 < (l0_0.length : Int)
       ·rw [if_pos c9] at H
        have c9b0 : decide (x15_1 < (l0_0.length : Int)) = true := decide_eq_true c9
        clear c9
        replace H := Option.bind_eq_some_iff.mp H
        obtain ⟨t104,A100,H⟩ := H
        replace H : (if t104 = true then (impl_ViewOk.l0 k1 l1 (l1.length : Int) (wrap64 (x15_1 + 1)) l0_0) else (some false)) = some r := H
        have A10 := aM_ A100
        clear A100
        by_cases c11 : t104 = true
        ·subst c11
         have H1 : (impl_ViewOk.l0 k1 l1 (l1.length : Int) (wrap64 (x15_1 + 1)) l0_0) = some r := by rw [if_pos rfl] at H;exact H
         clear H
         have H := H1
         clear H1
         have H' := aM_ H
         clear H
         have p102 : 0 ≤ (x15_1 : Int) := of_decide_eq_true (by first | (with_reducible assumption) | assumption)
         have q102 : x15_1 < (l1.length : Int) := of_decide_eq_true (by first | (with_reducible assumption) | assumption)
         obtain ⟨ad102,e102,hx102_0⟩ := Kd.at_int HR1.out x15_1 p102 q102
         cases e102
         replace hx102_0 := cB_ HB.out hx102_0
         replace p102 := eq_true p102
         replace q102 := eq_true q102
         have hcz12_0 : wr.cell? ⟨gb101,0,none⟩ = some (.slice A0_0 l0_0.length c0_0) := (blk_cell BK101.out 0).trans rfl
         have hfz12_0 := blk_frozen BK101.out 0
         have p103 : 0 ≤ (x15_1 : Int) := of_decide_eq_true (by first | (with_reducible assumption) | assumption)
         have q103 : x15_1 < (l0_0.length : Int) := of_decide_eq_true (by first | (with_reducible assumption) | assumption)
         obtain ⟨ad103,A103_0,c103_0,e103,hx103_0,hl103_0,hi103_0⟩ := at_L4 HR0_0.out x15_1 p103 q103
         cases e103
         replace hx103_0 := cB_ HB.out hx103_0
         have HR103_0 := aM_ hi103_0
         have HC103_0 := aM_ hl103_0
         clear hi103_0 hl103_0
         replace p103 := eq_true p103
         replace q103 := eq_true q103
         go_wp2_with (first | ((with_reducible refine gate_callee (f := 68) rfl ?_);refine gL_ (some 28) Try.func68 #[.int .i64 (rd l1 x15_1),.int .i64 0,.int .i64 (wrap64 (((rd_L4 l0_0 x15_1).length : Int) - 1))] ?_;(with_reducible refine (impl_within.calls (rd l1 x15_1) 0 (wrap64 (((rd_L4 l0_0 x15_1).length : Int) - 1)) true _ A10.out).mono ?_);rintro e w' ⟨rfl,⟨nd,rfl⟩⟩;refine ⟨_,rfl,?_⟩))
         go_roundg k1
         case measure => have := HK1.out;omega
         case rel => exact ⟨(wrap64 (x15_1 + 1)),(by first | rfl | (simp;done) | (simp [*];done)),H',⟨by have := HK1.out;omega⟩,⟨rW_ BK101.out⟩,⟨gW_ HB.out⟩⟩
        ·replace c11 := Bool.eq_false_iff.mpr c11
         subst c11
         have H1 : (some false) = some r := by rw [if_neg (show ¬ (false = true) by decide)] at H;exact H
         clear H
         have H := H1
         clear H1
         obtain rfl := Option.some.inj H
         have p102 : 0 ≤ (x15_1 : Int) := of_decide_eq_true (by first | (with_reducible assumption) | assumption)
         have q102 : x15_1 < (l1.length : Int) := of_decide_eq_true (by first | (with_reducible assumption) | assumption)
         obtain ⟨ad102,e102,hx102_0⟩ := Kd.at_int HR1.out x15_1 p102 q102
         cases e102
         replace hx102_0 := cB_ HB.out hx102_0
         replace p102 := eq_true p102
         replace q102 := eq_true q102
         have hcz13_0 : wr.cell? ⟨gb101,0,none⟩ = some (.slice A0_0 l0_0.length c0_0) := (blk_cell BK101.out 0).trans rfl
         have hfz13_0 := blk_frozen BK101.out 0
         have p103 : 0 ≤ (x15_1 : Int) := of_decide_eq_true (by first | (with_reducible assumption) | assumption)
         have q103 : x15_1 < (l0_0.length : Int) := of_decide_eq_true (by first | (with_reducible assumption) | assumption)
         obtain ⟨ad103,A103_0,c103_0,e103,hx103_0,hl103_0,hi103_0⟩ := at_L4 HR0_0.out x15_1 p103 q103
         cases e103
         replace hx103_0 := cB_ HB.out hx103_0
         have HR103_0 := aM_ hi103_0
         have HC103_0 := aM_ hl103_0
         clear hi103_0 hl103_0
         replace p103 := eq_true p103
         replace q103 := eq_true q103
         go_wp2_with (first | ((with_reducible refine gate_callee (f := 68) rfl ?_);refine gL_ (some 28) Try.func68 #[.int .i64 (rd l1 x15_1),.int .i64 0,.int .i64 (wrap64 (((rd_L4 l0_0 x15_1).length : Int) - 1))] ?_;(with_reducible refine (impl_within.calls (rd l1 x15_1) 0 (wrap64 (((rd_L4 l0_0 x15_1).length : Int) - 1)) false _ A10.out).mono ?_);rintro e w' ⟨rfl,⟨nd,rfl⟩⟩;refine ⟨_,rfl,?_⟩))
         go_ret
         exact fI_ HB.out
       ·rw [if_neg c9] at H
        exact absurd H (by simp)
      ·rw [if_neg c8] at H
       exact absurd H (by simp)
     ·rw [if_neg c7] at H
      exact absurd H (by simp)
    ·rw [if_neg c6] at H
     have c6b0 : decide (x15_1 < (l1.length : Int)) = false := decide_eq_false c6
     clear c6
     obtain rfl := Option.some.inj H
     go_wp2
     go_ret
     exact fI_ HB.out
 ·rw [if_neg c3] at H
  have c3b0 : ((l1.length : Int) == (l0_0.length : Int)) = false := beq_eq_false_iff_ne.mpr c3
  have c3b1 : ((l1.length : Int) != (l0_0.length : Int)) = true := bne_iff_ne.mpr c3
  have c3b2 : (l1.length == l0_0.length) = false := by first | simpa using c3 | (simp at c3 ⊢;omega)
  obtain rfl := Option.some.inj H
  go_enter Try.func28,Try.ntmps28
  go_wp2_with (first | ((with_reducible refine gate_dst (N := 2) rfl ?_);refine bX_ 2 (cs := #[.slice A0_0 l0_0.length c0_0]) (t := 24) ?_;intro gb101 hg w14 hbox hb;have n0 := aM_ (sT_ HB.out hb);have n1 := aM_ (hbox);have n2 := aM_ (sZ_ hg HB.out);have n3 := aM_ (sZ_ hg HB.out);clear HB;have HB := n0;have BK101 := n1;have GW101 := n2;have GE101 := n3;clear n0 n1 n2 n3;clear hb hbox hg;have hcz15_0 : w14.cell? ⟨gb101,0,none⟩ = some (.slice A0_0 l0_0.length c0_0) := (blk_cell BK101.out 0).trans rfl;have hfz15_0 := blk_frozen BK101.out 0))
  go_ret
  exact fI_ HB.out
mutual
def impl_MemoryOk.l0 : Nat → List (List (S43)) → Int → Int → List (List (S43)) → Option (Bool)
  | 0,_,_,_,_ => none
  | k + 1,x8,x9,x10,x106000 => if x10 < x9 then (if 0 ≤ x10 then (if x10 < (x8.length : Int) then ((impl_within.f ((rd_L4 x8 x10).length : Int) 1 4000).bind fun t107 => (if t107 = true then (impl_MemoryOk.l1 k x8 x9 x10 (rd_L4 x8 x10) ((rd_L4 x8 x10).length : Int) 0 x106000) else (some false))) else (none)) else (none)) else (some ((x106000.length : Int) == 24))
def impl_MemoryOk.l1 : Nat → List (List (S43)) → Int → Int → List (S43) → Int → Int → List (List (S43)) → Option (Bool)
  | 0,_,_,_,_,_,_,_ => none
  | k + 1,x8,x9,x10,x18,x19,x20,x106000 => if x20 < x19 then (if 0 ≤ x20 then (if x20 < (x18.length : Int) then ((impl_ViewOk.f k x106000 ((rd_T43 x18 x20).f1)).bind fun t110 => (if t110 = true then (impl_MemoryOk.l1 k x8 x9 x10 x18 x19 (wrap64 (x20 + 1)) x106000) else (some false))) else (none)) else (none)) else (impl_MemoryOk.l0 k x8 x9 (wrap64 (x10 + 1)) x106000)
end
def impl_MemoryOk.f (k : Nat) (l0_0 : List (List (S43))) : Option (Bool) := impl_MemoryOk.l0 k l0_0 (l0_0.length : Int) 0 l0_0
set_option maxHeartbeats 8000000 in
set_option maxRecDepth 100000 in
theorem impl_MemoryOk.calls (k : Nat) (A0_0 : Option Addr) (c0_0 : Nat) (l0_0 : List (List (S43))) (r : Bool) (w : World) (hr0_0 : Kd.C (Kd.slice 43 k43) w A0_0 l0_0.length l0_0) (hc0_0 : l0_0.length ≤ c0_0) (h : impl_MemoryOk.f k l0_0 = some r) :
  Calls Try.prog 26 #[.agg #[.slice A0_0 l0_0.length c0_0]] w fun e w' => e = .returned (.bool r) ∧ Below w.heap.size w w' := by
 have hu24 := Try.underlying24
 have hu43 := Try.underlying43
 have HR0_0 := aM_ hr0_0
 have HC0_0 := aM_ hc0_0
 clear hr0_0 hc0_0
 have HB := aM_ (Below.refl w.heap.size w)
 have H : (impl_MemoryOk.l0 k l0_0 (l0_0.length : Int) 0 l0_0) = some r := h
 clear h
 have H' := aM_ H
 clear H
 go_enter Try.func26,Try.ntmps26
 go_wp2_with (first | ((with_reducible refine gate_dst (N := 1) rfl ?_);refine bX_ 1 (cs := #[.slice A0_0 l0_0.length c0_0]) (t := 24) ?_;intro gb105 hg w2 hbox hb;have n0 := aM_ (sT_ HB.out hb);have n1 := aM_ (hbox);have n2 := aM_ (sZ_ hg HB.out);have n3 := aM_ (sZ_ hg HB.out);clear HB;have HB := n0;have BK105 := n1;have GW105 := n2;have GE105 := n3;clear n0 n1 n2 n3;clear hb hbox hg;have hcz3_0 : w2.cell? ⟨gb105,0,none⟩ = some (.slice A0_0 l0_0.length c0_0) := (blk_cell BK105.out 0).trans rfl;have hfz3_0 := blk_frozen BK105.out 0))
 go_loopg [10] k (fun kq v10 w' => ∃ (x10_1 : Int),v10 = .int .i64 x10_1 ∧ Aside0 (impl_MemoryOk.l0 kq l0_0 (l0_0.length : Int) x10_1 l0_0 = some r) ∧ Aside0 (kq ≤ k) ∧ Aside0 (w'.heap[gb105]? = some (.cells #[(.slice A0_0 l0_0.length c0_0)] 24 (0,0))) ∧ Aside0 (Below w.heap.size w w'))
 case atStart => exact ⟨(0),(by first | rfl | (simp;done) | (simp [*];done)),H',⟨Nat.le_refl _⟩,⟨rW_ BK105.out⟩,⟨gW_ HB.out⟩⟩
 case round =>
  clear H'
  try clear c2
  try clear p2
  try clear hcz3_0 hfz3_0
  obtain ⟨x10_1,rfl,HA,HK1,BK105,HB⟩ := hrel
  cases gk with
  | zero => exact absurd HA.out (by simp [impl_MemoryOk.l0])
  | succ k1 =>
   have H := HA.out
   clear HA
   simp only [impl_MemoryOk.l0] at H
   by_cases c4 : x10_1 < (l0_0.length : Int)
   ·rw [if_pos c4] at H
    have c4b0 : decide (x10_1 < (l0_0.length : Int)) = true := decide_eq_true c4
    clear c4
    by_cases c5 : 0 ≤ x10_1
    ·rw [if_pos c5] at H
     have c5b0 : decide (0 ≤ x10_1) = true := decide_eq_true c5
     clear c5
     by_cases c6 : x10_1 < (l0_0.length : Int)
     ·rw [if_pos c6] at H
      have c6b0 : decide (x10_1 < (l0_0.length : Int)) = true := decide_eq_true c6
      clear c6
      replace H := Option.bind_eq_some_iff.mp H
      obtain ⟨t107,A70,H⟩ := H
      replace H : (if t107 = true then (impl_MemoryOk.l1 k1 l0_0 (l0_0.length : Int) x10_1 (rd_L4 l0_0 x10_1) ((rd_L4 l0_0 x10_1).length : Int) 0 l0_0) else (some false)) = some r := H
      have A7 := aM_ A70
      clear A70
      by_cases c8 : t107 = true
      ·subst c8
       have H1 : (impl_MemoryOk.l1 k1 l0_0 (l0_0.length : Int) x10_1 (rd_L4 l0_0 x10_1) ((rd_L4 l0_0 x10_1).length : Int) 0 l0_0) = some r := by rw [if_pos rfl] at H;exact H
       clear H
       have H := H1
       clear H1
       have H' := aM_ H
       clear H
       have p106 : 0 ≤ (x10_1 : Int) := of_decide_eq_true (by first | (with_reducible assumption) | assumption)
       have q106 : x10_1 < (l0_0.length : Int) := of_decide_eq_true (by first | (with_reducible assumption) | assumption)
       obtain ⟨ad106,A106_0,c106_0,e106,hx106_0,hl106_0,hi106_0⟩ := at_L4 HR0_0.out x10_1 p106 q106
       cases e106
       replace hx106_0 := cB_ HB.out hx106_0
       have HR106_0 := aM_ hi106_0
       have HC106_0 := aM_ hl106_0
       clear hi106_0 hl106_0
       replace p106 := eq_true p106
       replace q106 := eq_true q106
       go_wp2_with (first | ((with_reducible refine gate_callee (f := 68) rfl ?_);refine gL_ (some 16) Try.func68 #[.int .i64 ((rd_L4 l0_0 x10_1).length : Int),.int .i64 1,.int .i64 4000] ?_;(with_reducible refine (impl_within.calls ((rd_L4 l0_0 x10_1).length : Int) 1 4000 true _ A7.out).mono ?_);rintro e w' ⟨rfl,⟨nd,rfl⟩⟩;refine ⟨_,rfl,?_⟩))
       go_loopg [20] k1 (fun kq v20 w' => ∃ (x20_2 : Int),v20 = .int .i64 x20_2 ∧ Aside0 (impl_MemoryOk.l1 kq l0_0 (l0_0.length : Int) x10_1 (rd_L4 l0_0 x10_1) ((rd_L4 l0_0 x10_1).length : Int) x20_2 l0_0 = some r) ∧ Aside0 (kq ≤ k1) ∧ Aside0 (w'.heap[gb105]? = some (.cells #[(.slice (some ad106) l0_0.length c0_0)] 24 (0,0))) ∧ Aside0 (Below w.heap.size w w'))
       case atStart => exact ⟨(0),(by first | rfl | (simp;done) | (simp [*];done)),H',⟨Nat.le_refl _⟩,⟨rW_ BK105.out⟩,⟨gW_ HB.out⟩⟩
       case round =>
        clear H'
        try clear c1
        try clear p1
        try clear q1
        try clear hx1
        try clear c2
        try clear p2
        try clear c4
        try clear c4b0
        try clear c5
        try clear c5b0
        try clear c6
        try clear c6b0
        try clear c8
        try clear hcz3_0 hfz3_0
        try clear hx106_0
        try clear p106
        try clear p2
        try clear q106
        obtain ⟨x20_2,rfl,HA,HK2,BK105,HB⟩ := hrel
        cases gk with
        | zero => exact absurd HA.out (by simp [impl_MemoryOk.l1])
        | succ k2 =>
         have H := HA.out
         clear HA
         simp only [impl_MemoryOk.l1] at H
         by_cases c9 : x20_2 < ((rd_L4 l0_0 x10_1).length : Int)
         ·rw [if_pos c9] at H
          have c9b0 : decide (x20_2 < ((rd_L4 l0_0 x10_1).length : Int)) = true := decide_eq_true c9
          clear c9
          by_cases c10 : 0 ≤ x20_2
          ·rw [if_pos c10] at H
           have c10b0 : decide (0 ≤ x20_2) = true := decide_eq_true c10
           clear c10
           by_cases c11 : x20_2 < ((rd_L4 l0_0 x10_1).length : Int)
           ·rw [if_pos c11] at H
            have c11b0 : decide (x20_2 < ((rd_L4 l0_0 x10_1).length : Int)) = true := decide_eq_true c11
            clear c11
            replace H := Option.bind_eq_some_iff.mp H
            obtain ⟨t110,A120,H⟩ := H
            replace H : (if t110 = true then (impl_MemoryOk.l1 k2 l0_0 (l0_0.length : Int) x10_1 (rd_L4 l0_0 x10_1) ((rd_L4 l0_0 x10_1).length : Int) (wrap64 (x20_2 + 1)) l0_0) else (some false)) = some r := H
            have A12 := aM_ A120
            clear A120
            by_cases c13 : t110 = true
            ·subst c13
             have H1 : (impl_MemoryOk.l1 k2 l0_0 (l0_0.length : Int) x10_1 (rd_L4 l0_0 x10_1) ((rd_L4 l0_0 x10_1).length : Int) (wrap64 (x20_2 + 1)) l0_0) = some r := by rw [if_pos rfl] at H;exact H
             clear H
             have H := H1
             clear H1
             have H' := aM_ H
             clear H
             have p108 : 0 ≤ (x20_2 : Int) := of_decide_eq_true (by first | (with_reducible assumption) | assumption)
             have q108 : x20_2 < ((rd_L4 l0_0 x10_1).length : Int) := of_decide_eq_true (by first | (with_reducible assumption) | assumption)
             obtain ⟨ad108,A108_1,c108_1,e108,hx108_0,hx108_1,hl108_1,hi108_1⟩ := at_T43 HR106_0.out x20_2 p108 q108
             cases e108
             replace hx108_0 := cB_ HB.out hx108_0
             replace hx108_1 := cB_ HB.out hx108_1
             have HR108_1 := aM_ hi108_1
             have HC108_1 := aM_ hl108_1
             clear hi108_1 hl108_1
             replace p108 := eq_true p108
             replace q108 := eq_true q108
             go_wp2_with (first | ((with_reducible refine gate_dst (N := 6) rfl ?_);refine bX_ 6 (cs := #[.int .i64 0,.slice none 0 0]) (t := 43) ?_;intro gb109 hg w14 hbox hb;have n0 := aM_ (nB_ BK105.out hb);have n1 := aM_ (sT_ HB.out hb);have n2 := aM_ (hbox);have n3 := aM_ (sZ_ hg HB.out);have n4 := aM_ (sZ_ hg HB.out);have n5 := aM_ (nL_ hg BK105.out);have n6 := aM_ (nG_ hg BK105.out);clear BK105;clear HB;have BK105 := n0;have HB := n1;have BK109 := n2;have GW109 := n3;have GE109 := n4;have NB105_109 := n5;have NB109_105 := n6;clear n0 n1 n2 n3 n4 n5 n6;clear hb hbox hg;have hnb15 := NB109_105.out;have hnc15 := NB105_109.out;obtain ⟨hcz16_0,hcz16_1,hfz16_0,hfz16_1⟩ := bR2_ BK109.out;have hcz17_0 : w14.cell? ⟨gb105,0,none⟩ = some (.slice (some ad106) l0_0.length c0_0) := (blk_cell BK105.out 0).trans rfl;have hfz17_0 := blk_frozen BK105.out 0) | ((with_reducible refine gate_callee (f := 28) rfl ?_);refine gL_ (some 27) Try.func28 #[.agg #[.slice (some ad106) l0_0.length c0_0],.slice A108_1 ((rd_T43 (rd_L4 l0_0 x10_1) x20_2).f1).length c108_1] ?_;(with_reducible refine (impl_ViewOk.calls k2 _ _ l0_0 _ _ ((rd_T43 (rd_L4 l0_0 x10_1) x20_2).f1) true _ ?side1 ?side2 ?side3 ?side4 A12.out).mono ?_);(case side1 => exact Kd.C_below HR0_0.out (gB_ HB.out));(case side2 => exact HC0_0.out);(case side3 => exact Kd.C_below HR108_1.out (gB_ HB.out));(case side4 => exact HC108_1.out);rintro e w18 ⟨rfl,hb⟩;refine ⟨_,rfl,?_⟩;have n0 := aM_ (nBf_ BK105.out hb);have n1 := aM_ (blk_below (g := gb109) (o := .cells #[.int .i64 ((rd_T43 (rd_L4 l0_0 x10_1) x20_2).f0),.slice A108_1 ((rd_T43 (rd_L4 l0_0 x10_1) x20_2).f1).length c108_1] 43 (0,0)) (by (with_reducible repeat (first | refine bN_ ?_ _ | refine bD_ ?_ | refine bA_ ?_ _));refine blk_put (cs := #[.int .i64 ((rd_T43 (rd_L4 l0_0 x10_1) x20_2).f0),.slice none 0 0]) ?_ 1 _ rfl;refine blk_put (cs := #[.int .i64 0,.slice none 0 0]) ?_ 0 _ rfl;exact rW_ BK109.out) hb);have n2 := aM_ (sT_ HB.out hb);clear BK105;clear BK109;clear HB;have BK105 := n0;have BK109 := n1;have HB := n2;clear n0 n1 n2))
             go_roundg k2
             case measure => have := HK1.out;have := HK2.out;omega
             case rel => exact ⟨(wrap64 (x20_2 + 1)),(by first | rfl | (simp;done) | (simp [*];done)),H',⟨by have := HK1.out;have := HK2.out;omega⟩,⟨rW_ BK105.out⟩,⟨gW_ HB.out⟩⟩
            ·replace c13 := Bool.eq_false_iff.mpr c13
             subst c13
             have H1 : (some false) = some r := by rw [if_neg (show ¬ (false = true) by decide)] at H;exact H
             clear H
             have H := H1
             clear H1
             obtain rfl := Option.some.inj H
             have p108 : 0 ≤ (x20_2 : Int) := of_decide_eq_true (by first | (with_reducible assumption) | assumption)
             have q108 : x20_2 < ((rd_L4 l0_0 x10_1).length : Int) := of_decide_eq_true (by first | (with_reducible assumption) | assumption)
             obtain ⟨ad108,A108_1,c108_1,e108,hx108_0,hx108_1,hl108_1,hi108_1⟩ := at_T43 HR106_0.out x20_2 p108 q108
             cases e108
             replace hx108_0 := cB_ HB.out hx108_0
             replace hx108_1 := cB_ HB.out hx108_1
             have HR108_1 := aM_ hi108_1
             have HC108_1 := aM_ hl108_1
             clear hi108_1 hl108_1
             replace p108 := eq_true p108
             replace q108 := eq_true q108
             go_wp2_with (first | ((with_reducible refine gate_dst (N := 6) rfl ?_);refine bX_ 6 (cs := #[.int .i64 0,.slice none 0 0]) (t := 43) ?_;intro gb109 hg w19 hbox hb;have n0 := aM_ (nB_ BK105.out hb);have n1 := aM_ (sT_ HB.out hb);have n2 := aM_ (hbox);have n3 := aM_ (sZ_ hg HB.out);have n4 := aM_ (sZ_ hg HB.out);have n5 := aM_ (nL_ hg BK105.out);have n6 := aM_ (nG_ hg BK105.out);clear BK105;clear HB;have BK105 := n0;have HB := n1;have BK109 := n2;have GW109 := n3;have GE109 := n4;have NB105_109 := n5;have NB109_105 := n6;clear n0 n1 n2 n3 n4 n5 n6;clear hb hbox hg;have hnb20 := NB109_105.out;have hnc20 := NB105_109.out;obtain ⟨hcz21_0,hcz21_1,hfz21_0,hfz21_1⟩ := bR2_ BK109.out;have hcz22_0 : w19.cell? ⟨gb105,0,none⟩ = some (.slice (some ad106) l0_0.length c0_0) := (blk_cell BK105.out 0).trans rfl;have hfz22_0 := blk_frozen BK105.out 0) | ((with_reducible refine gate_callee (f := 28) rfl ?_);refine gL_ (some 27) Try.func28 #[.agg #[.slice (some ad106) l0_0.length c0_0],.slice A108_1 ((rd_T43 (rd_L4 l0_0 x10_1) x20_2).f1).length c108_1] ?_;(with_reducible refine (impl_ViewOk.calls k2 _ _ l0_0 _ _ ((rd_T43 (rd_L4 l0_0 x10_1) x20_2).f1) false _ ?side1 ?side2 ?side3 ?side4 A12.out).mono ?_);(case side1 => exact Kd.C_below HR0_0.out (gB_ HB.out));(case side2 => exact HC0_0.out);(case side3 => exact Kd.C_below HR108_1.out (gB_ HB.out));(case side4 => exact HC108_1.out);rintro e w23 ⟨rfl,hb⟩;refine ⟨_,rfl,?_⟩;have n0 := aM_ (nBf_ BK105.out hb);have n1 := aM_ (blk_below (g := gb109) (o := .cells #[.int .i64 ((rd_T43 (rd_L4 l0_0 x10_1) x20_2).f0),.slice A108_1 ((rd_T43 (rd_L4 l0_0 x10_1) x20_2).f1).length c108_1] 43 (0,0)) (by (with_reducible repeat (first | refine bN_ ?_ _ | refine bD_ ?_ | refine bA_ ?_ _));refine blk_put (cs := #[.int .i64 ((rd_T43 (rd_L4 l0_0 x10_1) x20_2).f0),.slice none 0 0]) ?_ 1 _ rfl;refine blk_put (cs := #[.int .i64 0,.slice none 0 0]) ?_ 0 _ rfl;exact rW_ BK109.out) hb);have n2 := aM_ (sT_ HB.out hb);clear BK105;clear BK109;clear HB;have BK105 := n0;have BK109 := n1;have HB := n2;clear n0 n1 n2))
             go_ret
             exact fI_ HB.out
           ·rw [if_neg c11] at H
            exact absurd H (by simp)
          ·rw [if_neg c10] at H
           exact absurd H (by simp)
         ·rw [if_neg c9] at H
          have c9b0 : decide (x20_2 < ((rd_L4 l0_0 x10_1).length : Int)) = false := decide_eq_false c9
          clear c9
          have H' := aM_ H
          clear H
          go_wp2
          go_roundg k2
          case measure => have := HK1.out;have := HK2.out;omega
          case rel => exact ⟨(wrap64 (x10_1 + 1)),(by first | rfl | (simp;done) | (simp [*];done)),H',⟨by have := HK1.out;have := HK2.out;omega⟩,⟨rW_ BK105.out⟩,⟨gW_ HB.out⟩⟩
      ·replace c8 := Bool.eq_false_iff.mpr c8
       subst c8
       have H1 : (some false) = some r := by rw [if_neg (show ¬ (false = true) by decide)] at H;exact H
       clear H
       have H := H1
       clear H1
       obtain rfl := Option.some.inj H
       have p106 : 0 ≤ (x10_1 : Int) := of_decide_eq_true (by first | (with_reducible assumption) | assumption)
       have q106 : x10_1 < (l0_0.length : Int) := of_decide_eq_true (by first | (with_reducible assumption) | assumption)
       obtain ⟨ad106,A106_0,c106_0,e106,hx106_0,hl106_0,hi106_0⟩ := at_L4 HR0_0.out x10_1 p106 q106
       cases e106
       replace hx106_0 := cB_ HB.out hx106_0
       have HR106_0 := aM_ hi106_0
       have HC106_0 := aM_ hl106_0
       clear hi106_0 hl106_0
       replace p106 := eq_true p106
       replace q106 := eq_true q106
       go_wp2_with (first | ((with_reducible refine gate_callee (f := 68) rfl ?_);refine gL_ (some 16) Try.func68 #[.int .i64 ((rd_L4 l0_0 x10_1).length : Int),.int .i64 1,.int .i64 4000] ?_;(with_reducible refine (impl_within.calls ((rd_L4 l0_0 x10_1).length : Int) 1 4000 false _ A7.out).mono ?_);rintro e w' ⟨rfl,⟨nd,rfl⟩⟩;refine ⟨_,rfl,?_⟩))
       go_ret
       exact fI_ HB.out
     ·rw [if_neg c6] at H
      exact absurd H (by simp)
    ·rw [if_neg c5] at H
     exact absurd H (by simp)
   ·rw [if_neg c4] at H
    have c4b0 : decide (x10_1 < (l0_0.length : Int)) = false := decide_eq_false c4
    clear c4
    obtain rfl := Option.some.inj H
    have hcz24_0 : wr.cell? ⟨gb105,0,none⟩ = some (.slice A0_0 l0_0.length c0_0) := (blk_cell BK105.out 0).trans rfl
    have hfz24_0 := blk_frozen BK105.out 0
    go_wp2
    go_ret
    exact fI_ HB.out
def impl_isCell.f (a0 : Int) : Option (Bool) := (impl_within.f a0 0 23).bind fun t111 => (some t111)
set_option maxHeartbeats 8000000 in
set_option maxRecDepth 100000 in
theorem impl_isCell.calls (a0 : Int) (r : Bool) (w : World) (h : impl_isCell.f a0 = some r) :
  Calls Try.prog 56 #[.int .i64 a0] w fun e w' => e = .returned (.bool r) ∧ Drawn0 w w' := by
 have H : ((impl_within.f a0 0 23).bind fun t111 => (some t111)) = some r := h
 clear h
 replace H := Option.bind_eq_some_iff.mp H
 obtain ⟨t111,A20,H⟩ := H
 replace H : (some t111) = some r := H
 have A2 := aM_ A20
 clear A20
 obtain rfl := Option.some.inj H
 go_enter Try.func56,Try.ntmps56
 go_wp2_with (first | ((with_reducible refine gate_callee (f := 68) rfl ?_);refine gL_ (some 4) Try.func68 #[.int .i64 a0,.int .i64 0,.int .i64 23] ?_;(with_reducible refine (impl_within.calls a0 0 23 t111 _ A2.out).mono ?_);rintro e w' ⟨rfl,⟨nd,rfl⟩⟩;refine ⟨_,rfl,?_⟩))
 go_ret
 exact ⟨by first | rfl | (simp;done) | (simp [*];done),by repeat (first | exact Drawn0.refl _ | apply Drawn0.step)⟩
def impl_copyInts.f (l0 : List Int) : Option (List Int) := (some (([] : List Int) : List Int)).bind fun y112 => (if y112.length + l0.length < 17592186044416 then (some (y112 ++ l0)) else (none))
set_option maxHeartbeats 8000000 in
set_option maxRecDepth 100000 in
theorem impl_copyInts.calls (A0 : Option Addr) (c0 : Nat) (l0 : List Int) (r : List Int) (w : World) (hr0 : Kd.C (Kd.int .i64) w A0 l0.length l0) (hc0 : l0.length ≤ c0) (h : impl_copyInts.f l0 = some r) :
  Calls Try.prog 58 #[.slice A0 l0.length c0] w fun e w' => ∃ v0_ : Value,e = .returned (v0_) ∧ Kd.R (Kd.int .i64) 3 w' w.heap.size (fun _ => True) v0_ r ∧ Below w.heap.size w w' := by
 have HR0 := aM_ hr0
 have HC0 := aM_ hc0
 clear hr0 hc0
 have HB := aM_ (Below.refl w.heap.size w)
 have H : ((some (([] : List Int) : List Int)).bind fun y112 => (if y112.length + l0.length < 17592186044416 then (some (y112 ++ l0)) else (none))) = some r := h
 clear h
 obtain ⟨y112,hy112⟩ : ∃ y_ : List Int,y_ = (([] : List Int)) := ⟨_,rfl⟩
 replace H : (if y112.length + l0.length < 17592186044416 then (some (y112 ++ l0)) else (none)) = some r := by first | (rw [hy112];with_reducible exact H) | (have H2_ := (Option.bind_some _ _).symm.trans H;rw [hy112];with_reducible exact H2_) | (have H2_ := (Option.bind_some _ _).symm.trans H;with_reducible exact H2_) | with_reducible exact H | (rw [hy112];exact H) | exact H
 have Ny112 := aM_ hy112
 clear hy112
 by_cases c2 : y112.length + l0.length < 17592186044416
 ·rw [if_pos c2] at H
  have LMc2 := aM_ c2
  clear c2
  obtain ⟨y115,hy115⟩ : ∃ y_ : List Int,y_ = (y112 ++ l0) := ⟨_,rfl⟩
  replace H : (some y115) = some r := by first | (rw [hy115];with_reducible exact H) | (have H2_ := (Option.bind_some _ _).symm.trans H;rw [hy115];with_reducible exact H2_) | (have H2_ := (Option.bind_some _ _).symm.trans H;with_reducible exact H2_) | with_reducible exact H | (rw [hy115];exact H) | exact H
  have Ny115 := aM_ hy115
  clear hy115
  obtain rfl := Option.some.inj H
  go_enter Try.func58,Try.ntmps58
  go_wp2_with (first | ((with_reducible refine gate_dst (N := 3) rfl ?_);refine Kd.R_lit (Kd.int .i64) _ 3 ?hg (N := 3) ?hd (xs := ([] : List Int)) (inner := []) (ok := fun _ => True) (okp := fun _ => True) ?hr ?hp (fun _ hk => hk) trivial (Below.refl _ _) (Nat.le_refl _) (by simp) ?_;(case hd => rfl);(case hg => rfl);(case hr => first | (go_simp;done) | (go_simp;rfl));(case hp => exact (Reps.none _ _));intro v113 w3 ho4 hb hg_ hnew_;clear hg_ hnew_;(first | rw [← Ny112.out] at ho4 | (simp only [Int.reduceToNat] at ho4;rw [← Ny112.out] at ho4));have n0 := aM_ (Kd.R_lower ho4 (below_size (gB_ HB.out)));have n1 := aM_ (sT_ HB.out hb);clear HB;have HO114 := n0;have HB := n1;clear n0 n1;clear hb ho4) | ((with_reducible refine gate_builtin (b := .append) (xs := #[.tmp 3,.tmp 4]) rfl ?_);at_builtin;refine Kd.R_append_rows (Kd.int .i64) (w0 := w) w.heap.size rfl (.tmp 3) (.tmp 4) 31 3 (.int .i64 0) 8 rfl Try.underlying31 info3 rfl (by decide) (by omega) v113 y112 l0 _ _ _ (fun _ => True) (fun _ => False) rfl rfl ?aO ?aR (fun _ _ h => h) (fun _ h => h.elim) ?aF ?aB ?aS ?aL ?_;(case aR => repeat (first | exact (Kd.C_below HR0.out HB.out) | (with_reducible refine Kd.C_alloc ?_ _) | (with_reducible refine Kd.C_drewN ?_ _) | (with_reducible refine Kd.C_drew ?_)));(case aB => exact (gB_ HB.out));(case aF => exact (fun _ _ => trivial));(case aO => exact (by (with_reducible repeat (first | apply rA_ | apply rN_ | apply rD_));exact HO114.out));(case aS => exact (below_size (gB_ HB.out)));(case aL => have := LMc2.out;omega);intro v116 w5 ho hb hg hat;rw [← Ny115.out] at ho;have n0 := aM_ (hb);have n1 := aM_ (ho);clear HB;clear HO114;have HB := n0;have HO117 := n1;clear n0 n1;clear ho hb hg hat))
  go_ret
  exact ⟨_,fR_,by (with_reducible repeat (first | apply rA_ | apply rN_ | apply rD_));exact HO117.out,gB_ HB.out⟩
 ·rw [if_neg c2] at H
  exact absurd H (by simp)
def impl_Join.l0 : Nat → List Int → List Int → List Int → Int → Option (List Int)
  | 0,_,_,_,_ => none
  | k + 1,x0,x1,x5,x6 => if x6 < (x0.length : Int) then (if x6 < (x1.length : Int) then (if 0 ≤ x6 then (if x5.length < 17592186044416 then (impl_Join.l0 k x0 x1 (x5 ++ [mx (rd x0 x6) (rd x1 x6)]) (wrap64 (x6 + 1))) else (none)) else (none)) else (some x5)) else (some x5)
def impl_Join.f (k : Nat) (l0 : List Int) (l1 : List Int) : Option (List Int) := impl_Join.l0 k l0 l1 (([] : List Int)) 0
def impl_Join.T5 : Bool × List (List Nat × List Nat) := (true,[([],[]),([],[]),([],[]),([1,2],[1,2]),([3],[3]),([],[]),([],[]),([5,6],[5,6]),([7],[7]),([4,8],[4,8]),([9],[9]),([0,10],[0,10]),([11,11,0,1,2,3,4,5,6,7,8,9,10,11],[0,11])])
def impl_Join.B5 : List Nat := [0,0,0,6,14,0,0,96,224,510,1022,2047,4095]
theorem impl_Join.tab5 : rtab .any (opsOf Try.f94 5) = impl_Join.T5 := by kernel_rfl
theorem impl_Join.bits5 : waitsOk impl_Join.T5.2 impl_Join.B5 = true := by kernel_rfl
set_option maxHeartbeats 8000000 in
set_option maxRecDepth 100000 in
theorem impl_Join.calls (k : Nat) (A0 : Option Addr) (c0 : Nat) (l0 : List Int) (A1 : Option Addr) (c1 : Nat) (l1 : List Int) (r : List Int) (w : World) (hr0 : Kd.C (Kd.int .i64) w A0 l0.length l0) (hc0 : l0.length ≤ c0) (hr1 : Kd.C (Kd.int .i64) w A1 l1.length l1) (hc1 : l1.length ≤ c1) (h : impl_Join.f k l0 l1 = some r) :
  Calls Try.prog 94 #[.slice A0 l0.length c0,.slice A1 l1.length c1] w fun e w' => ∃ v0_ : Value,e = .returned (v0_) ∧ Kd.R (Kd.int .i64) 3 w' w.heap.size (fun _ => True) v0_ r ∧ Below w.heap.size w w' := by
 have HR0 := aM_ hr0
 have HC0 := aM_ hc0
 clear hr0 hc0
 have HR1 := aM_ hr1
 have HC1 := aM_ hc1
 clear hr1 hc1
 have HB := aM_ (Below.refl w.heap.size w)
 have H : (impl_Join.l0 k l0 l1 (([] : List Int)) 0) = some r := h
 clear h
 obtain ⟨y118,hy118⟩ : ∃ y_ : List Int,y_ = (([] : List Int)) := ⟨_,rfl⟩
 replace H : (impl_Join.l0 k l0 l1 y118 0) = some r := by first | (rw [hy118];with_reducible exact H) | (have H2_ := (Option.bind_some _ _).symm.trans H;rw [hy118];with_reducible exact H2_) | (have H2_ := (Option.bind_some _ _).symm.trans H;with_reducible exact H2_) | with_reducible exact H | (rw [hy118];exact H) | exact H
 have Ny118 := aM_ hy118
 clear hy118
 have H' := aM_ H
 clear H
 go_enter Try.func94,Try.ntmps94
 go_wp2_with (first | ((with_reducible refine gate_dst (N := 7) rfl ?_);(try (refine gate_guard (by rfl) ?_;dsimp only));refine Kd.R_lit (Kd.int .i64) _ 3 ?hg (N := 7) ?hd (xs := ([] : List Int)) (inner := []) (ok := fun _ => True) (okp := fun _ => True) ?hr ?hp (fun _ hk => hk) trivial (Below.refl _ _) (Nat.le_refl _) (by simp) ?_;(case hd => rfl);(case hg => rfl);(case hr => first | (go_simp;done) | (go_simp;rfl));(case hp => exact (Reps.none _ _));intro v119 w3 ho4 hb hg_ hnew_;clear hg_ hnew_;(first | rw [← Ny118.out] at ho4 | (simp only [Int.reduceToNat] at ho4;rw [← Ny118.out] at ho4));have n0 := aM_ (Kd.R_lower ho4 (below_size (gB_ HB.out)));have n1 := aM_ (sT_ HB.out hb);clear HB;have HO120 := n0;have HB := n1;clear n0 n1;clear hb ho4))
 go_loopg [5,6] k (fun kq v5 v6 w' => ∃ (x5_1 : List Int) (x6_1 : Int),v6 = .int .i64 x6_1 ∧ Aside0 (impl_Join.l0 kq l0 l1 x5_1 x6_1 = some r) ∧ Aside0 (kq ≤ k) ∧ Aside0 (Kd.R (Kd.int .i64) 3 w' w.heap.size (fun _ => True) v5 x5_1) ∧ Aside0 (Below w.heap.size w w'))
 case atStart => exact ⟨(y118),(0),(by first | rfl | (simp;done) | (simp [*];done)),H',⟨Nat.le_refl _⟩,⟨by (with_reducible repeat (first | apply rA_ | apply rN_ | apply rD_));exact HO120.out⟩,⟨gW_ HB.out⟩⟩
 case round =>
  clear H'
  try clear c1
  try clear p2
  obtain ⟨x5_1,x6_1,rfl,HA,HK1,HO_5,HB⟩ := hrel
  cases gk with
  | zero => exact absurd HA.out (by simp [impl_Join.l0])
  | succ k1 =>
   have H := HA.out
   clear HA
   simp only [impl_Join.l0] at H
   by_cases c5 : x6_1 < (l0.length : Int)
   ·rw [if_pos c5] at H
    have c5b0 : decide (x6_1 < (l0.length : Int)) = true := decide_eq_true c5
    clear c5
    by_cases c6 : x6_1 < (l1.length : Int)
    ·rw [if_pos c6] at H
     have c6b0 : decide (x6_1 < (l1.length : Int)) = true := decide_eq_true c6
     clear c6
     by_cases c7 : 0 ≤ x6_1
     ·rw [if_pos c7] at H
      have c7b0 : decide (0 ≤ x6_1) = true := decide_eq_true c7
      clear c7
      obtain ⟨ji8,hji8⟩ : ∃ j_ : Int,(mx (rd l0 x6_1) (rd l1 x6_1)) = j_ := ⟨_,rfl⟩
      replace H : (if x5_1.length < 17592186044416 then (impl_Join.l0 k1 l0 l1 (x5_1 ++ [ji8]) (wrap64 (x6_1 + 1))) else (none)) = some r := by first | (rw [hji8] at H;exact H) | (simp only [hji8] at H ⊢;exact H)
      have hji8_ : (if (rd l0 x6_1) < (rd l1 x6_1) then (rd l1 x6_1) else (rd l0 x6_1)) = ji8 := hji8
      by_cases c9 : x5_1.length < 17592186044416
      ·rw [if_pos c9] at H
       have LMc9 := aM_ c9
       clear c9
       obtain ⟨y123,hy123⟩ : ∃ y_ : List Int,y_ = (x5_1 ++ [ji8]) := ⟨_,rfl⟩
       replace H : (impl_Join.l0 k1 l0 l1 y123 (wrap64 (x6_1 + 1))) = some r := by first | (rw [hy123];with_reducible exact H) | (have H2_ := (Option.bind_some _ _).symm.trans H;rw [hy123];with_reducible exact H2_) | (have H2_ := (Option.bind_some _ _).symm.trans H;with_reducible exact H2_) | with_reducible exact H | (rw [hy123];exact H) | exact H
       have Ny123 := aM_ hy123
       clear hy123
       have H' := aM_ H
       clear H
       try go_wp2
       have n0 := aM_ (Kd.R_drew HO_5.out)
       have n1 := aM_ (below_drew1 HB.out)
       clear HO_5
       clear HB
       have HO_5 := n0
       have HB := n1
       clear n0 n1
       have p121 : 0 ≤ (x6_1 : Int) := of_decide_eq_true (by first | (with_reducible assumption) | assumption)
       have q121 : x6_1 < (l0.length : Int) := of_decide_eq_true (by first | (with_reducible assumption) | assumption)
       obtain ⟨ad121,e121,hx121_0⟩ := Kd.at_int HR0.out x6_1 p121 q121
       have hw121_0 := hx121_0
       cases e121
       replace hx121_0 := cB_ HB.out hx121_0
       replace p121 := eq_true p121
       replace q121 := eq_true q121
       have p122 : 0 ≤ (x6_1 : Int) := of_decide_eq_true (by first | (with_reducible assumption) | assumption)
       have q122 : x6_1 < (l1.length : Int) := of_decide_eq_true (by first | (with_reducible assumption) | assumption)
       obtain ⟨ad122,e122,hx122_0⟩ := Kd.at_int HR1.out x6_1 p122 q122
       have hw122_0 := hx122_0
       cases e122
       replace hx122_0 := cB_ HB.out hx122_0
       replace p122 := eq_true p122
       replace q122 := eq_true q122
       refine start_ (n := 13) (S := fun w' => w'.cell? (ad121.add (x6_1).toNat) = some (.int .i64 (rd l0 x6_1)) ∧ w'.cell? (ad122.add (x6_1).toNat) = some (.int .i64 (rd l1 x6_1))) (ds := []) (mk_ 13 0) (by kernel_rfl) rfl rfl ⟨(cB_ HB.out hw121_0 :),(cB_ HB.out hw122_0 :)⟩ (fun hHeld => ?_);refine with_tabW impl_Join.tab5 impl_Join.bits5 (fun HT_ HW_ => ?_)
       generalize wr.drew = w10 at HO_5 HB hx121_0 hx122_0 hHeld ⊢
       refine pU_ 0 (some 20) (mk_ 13 1) ?_
       refine pU_ 1 (some 21) (mk_ 13 3) ?_
       refine pU_ 2 (some 22) (mk_ 13 7) ?_
       refine pU_ 3 (some 23) (mk_ 13 15) ?_
       refine pU_ 5 (some 25) (mk_ 13 47) ?_
       refine pU_ 6 (some 26) (mk_ 13 111) ?_
       refine pU_ 7 (some 27) (mk_ 13 239) ?_
       refine tK2_ 4 (some 24) (mk_ 13 255) ?_
       refine tK2_ 8 (some 28) (mk_ 13 511) ?_
       refine pU_ 9 (some 29) (mk_ 13 1023) ?_
       refine oN_ 10 (some 30) (mk_ 13 2047) (fun K hK => ?_)
       refine value_ (w1 := ?_) (v := ?_) (by rfl) rfl ?_ ?_
       rotate_left 2
       ·go_simp
        constructor
        ·rfl
        ·rfl
       refine hK.out _ _ ⟨(World.cell?_alloc_lt _ _ _ (World.block_lt_of_cell? _ _ ((cB_ HB.out hw121_0 :)))).trans ((cB_ HB.out hw121_0 :)),(World.cell?_alloc_lt _ _ _ (World.block_lt_of_cell? _ _ ((cB_ HB.out hw122_0 :)))).trans ((cB_ HB.out hw122_0 :))⟩ (fun hHeld => ?_)
       clear hK K
       refine norm_ (a' := ?_) ?_ ?_
       rotate_left
       ·show Act.put _ (some 30) _ = _
        simp only [pt_,pn_,sI_,s0_,s1_,i64_w,i32_w]
        rfl
       refine oN_ 11 (some 31) (mk_ 13 4095) (fun K hK => ?_)
       refine Kd.R_append_step (Kd.int .i64) (w0 := w) w.heap.size (by rfl) (.tmp 20) (.tmp 30) 31 3 (.int .i64 0) 8 rfl Try.underlying31 info3 rfl (by decide) (by omega) u5 x5_1 ji8 [.int .i64 ji8] (fun _ => True) (fun _ => False) rfl rfl ?aP (fun _ hk => hk.elim) ?aF ?aO ?aB ?aS ?aL ?_
       (case aP => exact rfl)
       (case aB => exact (gB_ HB.out))
       (case aF => exact (fun _ _ => trivial))
       (case aO => exact (by (with_reducible repeat (first | apply rA_ | apply rN_ | apply rD_));exact HO_5.out))
       (case aS => exact (below_size (gB_ HB.out)))
       (case aL => have := LMc9.out;omega)
       intro v124 w11 ho hb hg hat
       rw [← Ny123.out] at ho
       have n0 := aM_ (hb)
       have n1 := aM_ (ho)
       clear HB
       clear HO_5
       have HB := n0
       have HO125 := n1
       clear n0 n1
       clear ho hb hg hat
       refine hK.out _ _ ⟨(cB_ HB.out hw121_0 :),(cB_ HB.out hw122_0 :)⟩ (fun hHeld => ?_)
       clear hK K
       refine norm_ (a' := ?_) ?_ ?_
       rotate_left
       ·show Act.put _ (some 31) _ = _
        simp only [pt_,pn_,sI_,s0_,s1_,i64_w,i32_w]
        rfl
       refine pU_ 12 (some 5) (mk_ 13 8191) ?_
       refine done_ (done_of HT_.out (by kernel_rfl)) ?_
       try go_wp2
       go_roundg k1
       case measure => have := HK1.out;omega
       case rel => exact ⟨(y123),(wrap64 (x6_1 + 1)),(by first | rfl | (simp;done) | (simp [*];done)),H',⟨by have := HK1.out;omega⟩,⟨by (with_reducible repeat (first | apply rA_ | apply rN_ | apply rD_));exact HO125.out⟩,⟨gW_ HB.out⟩⟩
      ·rw [if_neg c9] at H
       exact absurd H (by simp)
     ·rw [if_neg c7] at H
      exact absurd H (by simp)
    ·rw [if_neg c6] at H
     have c6b0 : decide (x6_1 < (l1.length : Int)) = false := decide_eq_false c6
     clear c6
     obtain rfl := Option.some.inj H
     go_wp2
     go_ret
     exact ⟨_,fR_,by (with_reducible repeat (first | apply rA_ | apply rN_ | apply rD_));exact HO_5.out,gB_ HB.out⟩
   ·rw [if_neg c5] at H
    have c5b0 : decide (x6_1 < (l0.length : Int)) = false := decide_eq_false c5
    clear c5
    obtain rfl := Option.some.inj H
    go_wp2
    go_ret
    exact ⟨_,fR_,by (with_reducible repeat (first | apply rA_ | apply rN_ | apply rD_));exact HO_5.out,gB_ HB.out⟩
end Go.Proofs.Ythbcnakmnbilhaa.PFnLoad
