/- Part of the proof of FnExactAble. -/
import Derived.Test.YtobachfngmpeiaaProg
import Derived.Below
import Derived.Deep.Draws
import Derived.Deep.AppendLies
import Derived.Maps.AppendAt
import Derived.OwnWalk
import Derived.Laws.BytesArg
import Derived.Laws.MakeOwn
import Derived.Laws.OwnMore
import Derived.Deep.OwnRows
import Derived.Tactics
import Derived.Lib.ConvBytes
import Derived.Laws.Slices
import Derived.WalkKit
import Derived.KernelRfl
import Derived.RowKit3
import Derived.Deep.LoopGhost
import Derived.Deep.QuietTactic
import Derived.BigQuiet
import Derived.WideLaws
import Derived.Deep.DeepCutAuto
import Derived.Deep.CutBlock
import Derived.Deep.RegionHeld3
import Derived.Laws.Rows
import Derived.Lib.AppendStr
import Derived.ArgAppend
import Derived.Laws.IdiomCopy
import Derived.OrdersHeld
import Derived.Laws.BitsLemmas
import Derived.RowKit
import Derived.Test.YtobachfngmpeiaaZFnExactAblea1
import Derived.Test.YtobachfngmpeiaaZFnExactAbles
set_option maxRecDepth 100000
namespace Go.Proofs.Ytobachfngmpeiaa.PFnExactAble
open Go.RowKit Go.Proofs.YtobachfngmpeiaaW.PrintWords Go.Proofs.YtobachfngmpeiaaW.PrintLast Go.Proofs.YtobachfngmpeiaaW.PrintMore
attribute [local go_sem] max2_int min2_int max_two min_two max_three min_three max_four min_four   -- for this text's walks alone
set_option linter.unusedVariables false
set_option linter.unusedSimpArgs false
def errW : Option Int → Value
  | none => .nilIface
  | some c => .iface 0 (.int .i64 c)
theorem errW_none : errW none = .nilIface := rfl
theorem errW_some (c : Int) : errW (some c) = .iface 0 (.int .i64 c) := rfl
theorem info3 : (Try.prog.info? 3).map (fun i => (i.zero,i.size,i.bytes)) = some (some (.int .i64 0),1,8) := by kernel_rfl
theorem info35 : (Try.prog.info? 35).map (fun i => (i.zero,i.size,i.bytes)) = some (some (.agg #[(.int .i64 0),(.int .i64 0)]),2,16) := by kernel_rfl
theorem info94 : (Try.prog.info? 94).map (fun i => (i.zero,i.size,i.bytes)) = some (some (.agg #[(.int .i64 0),(.slice none 0 0),(.bool false)]),3,40) := by kernel_rfl
theorem info107 : (Try.prog.info? 107).map (fun i => (i.zero,i.size,i.bytes)) = some (some (.agg #[(.int .i64 0),(.slice none 0 0),(.int .i64 0)]),3,40) := by kernel_rfl
theorem info162 : (Try.prog.info? 162).map (fun i => (i.zero,i.size,i.bytes)) = some (some (.slice none 0 0),1,24) := by kernel_rfl
theorem info192 : (Try.prog.info? 192).map (fun i => (i.zero,i.size,i.bytes)) = some (some (.agg #[(.int .i64 0),(.int .i64 0),(.int .i64 0),(.int .i64 0),(.int .i64 0)]),5,40) := by kernel_rfl
structure S208 where
  f0 : Int
  f1 : Int
  f2 : Int
  f3 : Int
  f4 : Int
def z208 : S208 := ⟨(0 : Int),(0 : Int),(0 : Int),(0 : Int),(0 : Int)⟩
def k208 : Kd S208 := Kd.iso (Kd.pair (Kd.int .i64) (Kd.pair (Kd.int .i64) (Kd.pair (Kd.int .i64) (Kd.pair (Kd.int .i64) (Kd.int .i64))))) (fun x : S208 => (x.f0,x.f1,x.f2,x.f3,x.f4))
theorem k208_open {w : World} {x : S208} {cs : List Value} (h : k208.K w x cs) : cs = [.int .i64 x.f0,.int .i64 x.f1,.int .i64 x.f2,.int .i64 x.f3,.int .i64 x.f4] := by
 obtain ⟨_,_,rfl,rfl,⟨_,_,rfl,rfl,⟨_,_,rfl,rfl,⟨_,_,rfl,rfl,rfl⟩⟩⟩⟩ := h
 exact rfl
def rd_T208 (xs : List S208) (i : Int) : S208 := xs.getD i.toNat z208
theorem at_T208 {w : World} {A : Option Addr} {n : Nat} {xs : List S208} (h : Kd.C k208 w A n xs) (i : Int) (h0 : 0 ≤ i) (h1 : i < n) : ∃ ad ,A = some ad ∧ w.cell? (ad.add (i.toNat * 5)) = some (.int .i64 (rd_T208 xs i).f0) ∧ w.cell? ⟨(ad.add (i.toNat * 5)).block,(ad.add (i.toNat * 5)).off + 1,none⟩ = some (.int .i64 (rd_T208 xs i).f1) ∧ w.cell? ⟨(ad.add (i.toNat * 5)).block,(ad.add (i.toNat * 5)).off + 2,none⟩ = some (.int .i64 (rd_T208 xs i).f2) ∧ w.cell? ⟨(ad.add (i.toNat * 5)).block,(ad.add (i.toNat * 5)).off + 3,none⟩ = some (.int .i64 (rd_T208 xs i).f3) ∧ w.cell? ⟨(ad.add (i.toNat * 5)).block,(ad.add (i.toNat * 5)).off + 4,none⟩ = some (.int .i64 (rd_T208 xs i).f4) := by
 obtain ⟨ad,c,e,_,hK,hc0⟩ := Kd.C_get h z208 i h0 h1
 have hc : ∀ j u,c[j]? = some u → w.cell? (ad.add (i.toNat * 5 + j)) = some u := hc0
 obtain rfl := k208_open hK
 exact ⟨ad,e,hc 0 _ rfl,by rw [← add_field _ _ 1 (by omega)];exact hc 1 _ rfl,by rw [← add_field _ _ 2 (by omega)];exact hc 2 _ rfl,by rw [← add_field _ _ 3 (by omega)];exact hc 3 _ rfl,by rw [← add_field _ _ 4 (by omega)];exact hc 4 _ rfl⟩
def rd_L2 (xs : List (List S208)) (i : Int) : (List S208) := xs.getD i.toNat ([] : List S208)
theorem at_L2 {w : World} {A : Option Addr} {n : Nat} {xs : List (List S208)} (h : Kd.C (Kd.slice 208 k208) w A n xs) (i : Int) (h0 : 0 ≤ i) (h1 : i < n) : ∃ ad A0 c0,A = some ad ∧ w.cell? (ad.add i.toNat) = some (.slice A0 (rd_L2 xs i).length c0) ∧ (rd_L2 xs i).length ≤ c0 ∧ k208.C w A0 (rd_L2 xs i).length (rd_L2 xs i) := by
 obtain ⟨ad,c,e,_,hK,hc0⟩ := Kd.C_get h ([] : List S208) i h0 h1
 have hc : ∀ j u,c[j]? = some u → w.cell? (ad.add (i.toNat * 1 + j)) = some u := hc0
 obtain ⟨A0,c0,rfl,l0,g0⟩ := hK
 exact ⟨ad,A0,c0,e,by have hq := hc 0 _ rfl;rwa [Nat.mul_one,Nat.add_zero] at hq,l0,g0⟩
structure S192 where
  f0 : Int
  f1 : Int
  f2 : Int
  f3 : Int
  f4 : Int
def z192 : S192 := ⟨(0 : Int),(0 : Int),(0 : Int),(0 : Int),(0 : Int)⟩
def k192 : Kd S192 := Kd.iso (Kd.pair (Kd.int .i64) (Kd.pair (Kd.int .i64) (Kd.pair (Kd.int .i64) (Kd.pair (Kd.int .i64) (Kd.int .i64))))) (fun x : S192 => (x.f0,x.f1,x.f2,x.f3,x.f4))
theorem k192_open {w : World} {x : S192} {cs : List Value} (h : k192.K w x cs) : cs = [.int .i64 x.f0,.int .i64 x.f1,.int .i64 x.f2,.int .i64 x.f3,.int .i64 x.f4] := by
 obtain ⟨_,_,rfl,rfl,⟨_,_,rfl,rfl,⟨_,_,rfl,rfl,⟨_,_,rfl,rfl,rfl⟩⟩⟩⟩ := h
 exact rfl
theorem k192_openM {w : World} {base : Nat} {ok : Nat → Prop} {x : S192} {cs : List Value} (h : k192.M w base ok x cs) : cs = [.int .i64 x.f0,.int .i64 x.f1,.int .i64 x.f2,.int .i64 x.f3,.int .i64 x.f4] := by
 obtain ⟨_,_,rfl,rfl,⟨_,_,rfl,rfl,⟨_,_,rfl,rfl,⟨_,_,rfl,rfl,rfl⟩⟩⟩⟩ := h
 exact rfl
theorem k192_mkM (w : World) (base : Nat) (ok : Nat → Prop) (x : S192)  : k192.M w base ok x [.int .i64 x.f0,.int .i64 x.f1,.int .i64 x.f2,.int .i64 x.f3,.int .i64 x.f4] := ⟨[.int .i64 x.f0],[.int .i64 x.f1,.int .i64 x.f2,.int .i64 x.f3,.int .i64 x.f4],rfl,rfl,⟨[.int .i64 x.f1],[.int .i64 x.f2,.int .i64 x.f3,.int .i64 x.f4],rfl,rfl,⟨[.int .i64 x.f2],[.int .i64 x.f3,.int .i64 x.f4],rfl,rfl,⟨[.int .i64 x.f3],[.int .i64 x.f4],rfl,rfl,rfl⟩⟩⟩⟩
def rd_T192 (xs : List S192) (i : Int) : S192 := xs.getD i.toNat z192
theorem at_T192 {w : World} {A : Option Addr} {n : Nat} {xs : List S192} (h : Kd.C k192 w A n xs) (i : Int) (h0 : 0 ≤ i) (h1 : i < n) : ∃ ad ,A = some ad ∧ w.cell? (ad.add (i.toNat * 5)) = some (.int .i64 (rd_T192 xs i).f0) ∧ w.cell? ⟨(ad.add (i.toNat * 5)).block,(ad.add (i.toNat * 5)).off + 1,none⟩ = some (.int .i64 (rd_T192 xs i).f1) ∧ w.cell? ⟨(ad.add (i.toNat * 5)).block,(ad.add (i.toNat * 5)).off + 2,none⟩ = some (.int .i64 (rd_T192 xs i).f2) ∧ w.cell? ⟨(ad.add (i.toNat * 5)).block,(ad.add (i.toNat * 5)).off + 3,none⟩ = some (.int .i64 (rd_T192 xs i).f3) ∧ w.cell? ⟨(ad.add (i.toNat * 5)).block,(ad.add (i.toNat * 5)).off + 4,none⟩ = some (.int .i64 (rd_T192 xs i).f4) := by
 obtain ⟨ad,c,e,_,hK,hc0⟩ := Kd.C_get h z192 i h0 h1
 have hc : ∀ j u,c[j]? = some u → w.cell? (ad.add (i.toNat * 5 + j)) = some u := hc0
 obtain rfl := k192_open hK
 exact ⟨ad,e,hc 0 _ rfl,by rw [← add_field _ _ 1 (by omega)];exact hc 1 _ rfl,by rw [← add_field _ _ 2 (by omega)];exact hc 2 _ rfl,by rw [← add_field _ _ 3 (by omega)];exact hc 3 _ rfl,by rw [← add_field _ _ 4 (by omega)];exact hc 4 _ rfl⟩
def rd_L4 (xs : List (List S192)) (i : Int) : (List S192) := xs.getD i.toNat ([] : List S192)
theorem at_L4 {w : World} {A : Option Addr} {n : Nat} {xs : List (List S192)} (h : Kd.C (Kd.slice 192 k192) w A n xs) (i : Int) (h0 : 0 ≤ i) (h1 : i < n) : ∃ ad A0 c0,A = some ad ∧ w.cell? (ad.add i.toNat) = some (.slice A0 (rd_L4 xs i).length c0) ∧ (rd_L4 xs i).length ≤ c0 ∧ k192.C w A0 (rd_L4 xs i).length (rd_L4 xs i) := by
 obtain ⟨ad,c,e,_,hK,hc0⟩ := Kd.C_get h ([] : List S192) i h0 h1
 have hc : ∀ j u,c[j]? = some u → w.cell? (ad.add (i.toNat * 1 + j)) = some u := hc0
 obtain ⟨A0,c0,rfl,l0,g0⟩ := hK
 exact ⟨ad,A0,c0,e,by have hq := hc 0 _ rfl;rwa [Nat.mul_one,Nat.add_zero] at hq,l0,g0⟩
structure S107 where
  f0 : Int
  f1 : (List Int)
  f2 : Int
def z107 : S107 := ⟨(0 : Int),([] : List Int),(0 : Int)⟩
def k107 : Kd S107 := Kd.iso (Kd.pair (Kd.int .i64) (Kd.pair (Kd.slice 3 (Kd.int .i64)) (Kd.int .i64))) (fun x : S107 => (x.f0,x.f1,x.f2))
theorem k107_open {w : World} {x : S107} {cs : List Value} (h : k107.K w x cs) : ∃ A1 c1,cs = [.int .i64 x.f0,.slice A1 x.f1.length c1,.int .i64 x.f2] ∧ x.f1.length ≤ c1 ∧ (Kd.int .i64).C w A1 x.f1.length x.f1 := by
 obtain ⟨_,_,rfl,rfl,⟨_,_,rfl,⟨A1,c1,rfl,l1,g1⟩,rfl⟩⟩ := h
 exact ⟨A1,c1,rfl,l1,g1⟩
theorem k107_openM {w : World} {base : Nat} {ok : Nat → Prop} {x : S107} {cs : List Value} (h : k107.M w base ok x cs) : ∃ v1,cs = [.int .i64 x.f0,v1,.int .i64 x.f2] ∧ (Kd.int .i64).R 3 w base ok v1 x.f1 := by
 obtain ⟨_,_,rfl,rfl,⟨_,_,rfl,⟨v1,rfl,g1⟩,rfl⟩⟩ := h
 exact ⟨v1,rfl,g1⟩
theorem k107_mkM (w : World) (base : Nat) (ok : Nat → Prop) (x : S107) {v1 : Value} (g1 : (Kd.int .i64).R 3 w base ok v1 x.f1) : k107.M w base ok x [.int .i64 x.f0,v1,.int .i64 x.f2] := ⟨[.int .i64 x.f0],[v1,.int .i64 x.f2],rfl,rfl,⟨[v1],[.int .i64 x.f2],rfl,⟨v1,rfl,g1⟩,rfl⟩⟩
def rd_T107 (xs : List S107) (i : Int) : S107 := xs.getD i.toNat z107
theorem at_T107 {w : World} {A : Option Addr} {n : Nat} {xs : List S107} (h : Kd.C k107 w A n xs) (i : Int) (h0 : 0 ≤ i) (h1 : i < n) : ∃ ad A1 c1,A = some ad ∧ w.cell? (ad.add (i.toNat * 3)) = some (.int .i64 (rd_T107 xs i).f0) ∧ w.cell? ⟨(ad.add (i.toNat * 3)).block,(ad.add (i.toNat * 3)).off + 1,none⟩ = some (.slice A1 (rd_T107 xs i).f1.length c1) ∧ w.cell? ⟨(ad.add (i.toNat * 3)).block,(ad.add (i.toNat * 3)).off + 2,none⟩ = some (.int .i64 (rd_T107 xs i).f2) ∧ (rd_T107 xs i).f1.length ≤ c1 ∧ (Kd.int .i64).C w A1 (rd_T107 xs i).f1.length (rd_T107 xs i).f1 := by
 obtain ⟨ad,c,e,_,hK,hc0⟩ := Kd.C_get h z107 i h0 h1
 have hc : ∀ j u,c[j]? = some u → w.cell? (ad.add (i.toNat * 3 + j)) = some u := hc0
 obtain ⟨A1,c1,rfl,l1,g1⟩ := k107_open hK
 exact ⟨ad,A1,c1,e,hc 0 _ rfl,by rw [← add_field _ _ 1 (by omega)];exact hc 1 _ rfl,by rw [← add_field _ _ 2 (by omega)];exact hc 2 _ rfl,l1,g1⟩
structure S94 where
  f0 : Int
  f1 : (List Int)
  f2 : Bool
def z94 : S94 := ⟨(0 : Int),([] : List Int),false⟩
def k94 : Kd S94 := Kd.iso (Kd.pair (Kd.int .i64) (Kd.pair (Kd.slice 3 (Kd.int .i64)) Kd.bool)) (fun x : S94 => (x.f0,x.f1,x.f2))
theorem k94_open {w : World} {x : S94} {cs : List Value} (h : k94.K w x cs) : ∃ A1 c1,cs = [.int .i64 x.f0,.slice A1 x.f1.length c1,.bool x.f2] ∧ x.f1.length ≤ c1 ∧ (Kd.int .i64).C w A1 x.f1.length x.f1 := by
 obtain ⟨_,_,rfl,rfl,⟨_,_,rfl,⟨A1,c1,rfl,l1,g1⟩,rfl⟩⟩ := h
 exact ⟨A1,c1,rfl,l1,g1⟩
theorem k94_openM {w : World} {base : Nat} {ok : Nat → Prop} {x : S94} {cs : List Value} (h : k94.M w base ok x cs) : ∃ v1,cs = [.int .i64 x.f0,v1,.bool x.f2] ∧ (Kd.int .i64).R 3 w base ok v1 x.f1 := by
 obtain ⟨_,_,rfl,rfl,⟨_,_,rfl,⟨v1,rfl,g1⟩,rfl⟩⟩ := h
 exact ⟨v1,rfl,g1⟩
theorem k94_mkM (w : World) (base : Nat) (ok : Nat → Prop) (x : S94) {v1 : Value} (g1 : (Kd.int .i64).R 3 w base ok v1 x.f1) : k94.M w base ok x [.int .i64 x.f0,v1,.bool x.f2] := ⟨[.int .i64 x.f0],[v1,.bool x.f2],rfl,rfl,⟨[v1],[.bool x.f2],rfl,⟨v1,rfl,g1⟩,rfl⟩⟩
def rd_T94 (xs : List S94) (i : Int) : S94 := xs.getD i.toNat z94
theorem at_T94 {w : World} {A : Option Addr} {n : Nat} {xs : List S94} (h : Kd.C k94 w A n xs) (i : Int) (h0 : 0 ≤ i) (h1 : i < n) : ∃ ad A1 c1,A = some ad ∧ w.cell? (ad.add (i.toNat * 3)) = some (.int .i64 (rd_T94 xs i).f0) ∧ w.cell? ⟨(ad.add (i.toNat * 3)).block,(ad.add (i.toNat * 3)).off + 1,none⟩ = some (.slice A1 (rd_T94 xs i).f1.length c1) ∧ w.cell? ⟨(ad.add (i.toNat * 3)).block,(ad.add (i.toNat * 3)).off + 2,none⟩ = some (.bool (rd_T94 xs i).f2) ∧ (rd_T94 xs i).f1.length ≤ c1 ∧ (Kd.int .i64).C w A1 (rd_T94 xs i).f1.length (rd_T94 xs i).f1 := by
 obtain ⟨ad,c,e,_,hK,hc0⟩ := Kd.C_get h z94 i h0 h1
 have hc : ∀ j u,c[j]? = some u → w.cell? (ad.add (i.toNat * 3 + j)) = some u := hc0
 obtain ⟨A1,c1,rfl,l1,g1⟩ := k94_open hK
 exact ⟨ad,A1,c1,e,hc 0 _ rfl,by rw [← add_field _ _ 1 (by omega)];exact hc 1 _ rfl,by rw [← add_field _ _ 2 (by omega)];exact hc 2 _ rfl,l1,g1⟩
structure S35 where
  f0 : Int
  f1 : Int
def z35 : S35 := ⟨(0 : Int),(0 : Int)⟩
def k35 : Kd S35 := Kd.iso (Kd.pair (Kd.int .i64) (Kd.int .i64)) (fun x : S35 => (x.f0,x.f1))
theorem k35_open {w : World} {x : S35} {cs : List Value} (h : k35.K w x cs) : cs = [.int .i64 x.f0,.int .i64 x.f1] := by
 obtain ⟨_,_,rfl,rfl,rfl⟩ := h
 exact rfl
theorem k35_openM {w : World} {base : Nat} {ok : Nat → Prop} {x : S35} {cs : List Value} (h : k35.M w base ok x cs) : cs = [.int .i64 x.f0,.int .i64 x.f1] := by
 obtain ⟨_,_,rfl,rfl,rfl⟩ := h
 exact rfl
theorem k35_mkM (w : World) (base : Nat) (ok : Nat → Prop) (x : S35)  : k35.M w base ok x [.int .i64 x.f0,.int .i64 x.f1] := ⟨[.int .i64 x.f0],[.int .i64 x.f1],rfl,rfl,rfl⟩
def rd_T35 (xs : List S35) (i : Int) : S35 := xs.getD i.toNat z35
theorem at_T35 {w : World} {A : Option Addr} {n : Nat} {xs : List S35} (h : Kd.C k35 w A n xs) (i : Int) (h0 : 0 ≤ i) (h1 : i < n) : ∃ ad ,A = some ad ∧ w.cell? (ad.add (i.toNat * 2)) = some (.int .i64 (rd_T35 xs i).f0) ∧ w.cell? ⟨(ad.add (i.toNat * 2)).block,(ad.add (i.toNat * 2)).off + 1,none⟩ = some (.int .i64 (rd_T35 xs i).f1) := by
 obtain ⟨ad,c,e,_,hK,hc0⟩ := Kd.C_get h z35 i h0 h1
 have hc : ∀ j u,c[j]? = some u → w.cell? (ad.add (i.toNat * 2 + j)) = some u := hc0
 obtain rfl := k35_open hK
 exact ⟨ad,e,hc 0 _ rfl,by rw [← add_field _ _ 1 (by omega)];exact hc 1 _ rfl⟩
structure S184 where
  f0 : Int
  f1 : (List Int)
  f2 : Int
def z184 : S184 := ⟨(0 : Int),([] : List Int),(0 : Int)⟩
def k184 : Kd S184 := Kd.iso (Kd.pair (Kd.int .i64) (Kd.pair (Kd.slice 3 (Kd.int .i64)) (Kd.int .i64))) (fun x : S184 => (x.f0,x.f1,x.f2))
theorem k184_open {w : World} {x : S184} {cs : List Value} (h : k184.K w x cs) : ∃ A1 c1,cs = [.int .i64 x.f0,.slice A1 x.f1.length c1,.int .i64 x.f2] ∧ x.f1.length ≤ c1 ∧ (Kd.int .i64).C w A1 x.f1.length x.f1 := by
 obtain ⟨_,_,rfl,rfl,⟨_,_,rfl,⟨A1,c1,rfl,l1,g1⟩,rfl⟩⟩ := h
 exact ⟨A1,c1,rfl,l1,g1⟩
def rd_T184 (xs : List S184) (i : Int) : S184 := xs.getD i.toNat z184
theorem at_T184 {w : World} {A : Option Addr} {n : Nat} {xs : List S184} (h : Kd.C k184 w A n xs) (i : Int) (h0 : 0 ≤ i) (h1 : i < n) : ∃ ad A1 c1,A = some ad ∧ w.cell? (ad.add (i.toNat * 3)) = some (.int .i64 (rd_T184 xs i).f0) ∧ w.cell? ⟨(ad.add (i.toNat * 3)).block,(ad.add (i.toNat * 3)).off + 1,none⟩ = some (.slice A1 (rd_T184 xs i).f1.length c1) ∧ w.cell? ⟨(ad.add (i.toNat * 3)).block,(ad.add (i.toNat * 3)).off + 2,none⟩ = some (.int .i64 (rd_T184 xs i).f2) ∧ (rd_T184 xs i).f1.length ≤ c1 ∧ (Kd.int .i64).C w A1 (rd_T184 xs i).f1.length (rd_T184 xs i).f1 := by
 obtain ⟨ad,c,e,_,hK,hc0⟩ := Kd.C_get h z184 i h0 h1
 have hc : ∀ j u,c[j]? = some u → w.cell? (ad.add (i.toNat * 3 + j)) = some u := hc0
 obtain ⟨A1,c1,rfl,l1,g1⟩ := k184_open hK
 exact ⟨ad,A1,c1,e,hc 0 _ rfl,by rw [← add_field _ _ 1 (by omega)];exact hc 1 _ rfl,by rw [← add_field _ _ 2 (by omega)];exact hc 2 _ rfl,l1,g1⟩
structure S186 where
  f0 : Int
  f1 : (List Int)
  f2 : Bool
def z186 : S186 := ⟨(0 : Int),([] : List Int),false⟩
def k186 : Kd S186 := Kd.iso (Kd.pair (Kd.int .i64) (Kd.pair (Kd.slice 3 (Kd.int .i64)) Kd.bool)) (fun x : S186 => (x.f0,x.f1,x.f2))
theorem k186_open {w : World} {x : S186} {cs : List Value} (h : k186.K w x cs) : ∃ A1 c1,cs = [.int .i64 x.f0,.slice A1 x.f1.length c1,.bool x.f2] ∧ x.f1.length ≤ c1 ∧ (Kd.int .i64).C w A1 x.f1.length x.f1 := by
 obtain ⟨_,_,rfl,rfl,⟨_,_,rfl,⟨A1,c1,rfl,l1,g1⟩,rfl⟩⟩ := h
 exact ⟨A1,c1,rfl,l1,g1⟩
def rd_T186 (xs : List S186) (i : Int) : S186 := xs.getD i.toNat z186
theorem at_T186 {w : World} {A : Option Addr} {n : Nat} {xs : List S186} (h : Kd.C k186 w A n xs) (i : Int) (h0 : 0 ≤ i) (h1 : i < n) : ∃ ad A1 c1,A = some ad ∧ w.cell? (ad.add (i.toNat * 3)) = some (.int .i64 (rd_T186 xs i).f0) ∧ w.cell? ⟨(ad.add (i.toNat * 3)).block,(ad.add (i.toNat * 3)).off + 1,none⟩ = some (.slice A1 (rd_T186 xs i).f1.length c1) ∧ w.cell? ⟨(ad.add (i.toNat * 3)).block,(ad.add (i.toNat * 3)).off + 2,none⟩ = some (.bool (rd_T186 xs i).f2) ∧ (rd_T186 xs i).f1.length ≤ c1 ∧ (Kd.int .i64).C w A1 (rd_T186 xs i).f1.length (rd_T186 xs i).f1 := by
 obtain ⟨ad,c,e,_,hK,hc0⟩ := Kd.C_get h z186 i h0 h1
 have hc : ∀ j u,c[j]? = some u → w.cell? (ad.add (i.toNat * 3 + j)) = some u := hc0
 obtain ⟨A1,c1,rfl,l1,g1⟩ := k186_open hK
 exact ⟨ad,A1,c1,e,hc 0 _ rfl,by rw [← add_field _ _ 1 (by omega)];exact hc 1 _ rfl,by rw [← add_field _ _ 2 (by omega)];exact hc 2 _ rfl,l1,g1⟩
structure S190 where
  f0 : Int
  f1 : Int
def z190 : S190 := ⟨(0 : Int),(0 : Int)⟩
def k190 : Kd S190 := Kd.iso (Kd.pair (Kd.int .i64) (Kd.int .i64)) (fun x : S190 => (x.f0,x.f1))
theorem k190_open {w : World} {x : S190} {cs : List Value} (h : k190.K w x cs) : cs = [.int .i64 x.f0,.int .i64 x.f1] := by
 obtain ⟨_,_,rfl,rfl,rfl⟩ := h
 exact rfl
def rd_T190 (xs : List S190) (i : Int) : S190 := xs.getD i.toNat z190
theorem at_T190 {w : World} {A : Option Addr} {n : Nat} {xs : List S190} (h : Kd.C k190 w A n xs) (i : Int) (h0 : 0 ≤ i) (h1 : i < n) : ∃ ad ,A = some ad ∧ w.cell? (ad.add (i.toNat * 2)) = some (.int .i64 (rd_T190 xs i).f0) ∧ w.cell? ⟨(ad.add (i.toNat * 2)).block,(ad.add (i.toNat * 2)).off + 1,none⟩ = some (.int .i64 (rd_T190 xs i).f1) := by
 obtain ⟨ad,c,e,_,hK,hc0⟩ := Kd.C_get h z190 i h0 h1
 have hc : ∀ j u,c[j]? = some u → w.cell? (ad.add (i.toNat * 2 + j)) = some u := hc0
 obtain rfl := k190_open hK
 exact ⟨ad,e,hc 0 _ rfl,by rw [← add_field _ _ 1 (by omega)];exact hc 1 _ rfl⟩
def laws_szIntS.f (l0 : List Int) (a1 : Int) : Option (Int) := if (wrap64 (a1 - (l0.length : Int))) < 0 then (some (-1)) else (some (wrap64 (a1 - (l0.length : Int))))
set_option maxHeartbeats 8000000 in
theorem laws_szIntS.calls (A0 : Option Addr) (c0 : Nat) (l0 : List Int) (a1 : Int) (r : Int) (w : World) (hr0 : Kd.C (Kd.int .i64) w A0 l0.length l0) (hc0 : l0.length ≤ c0) (h : laws_szIntS.f l0 a1 = some r) :
  Calls Try.prog 58 #[.slice A0 l0.length c0,.int .i64 a1] w fun e w' => e = .returned (.int .i64 r) ∧ Drawn0 w w' := by
 have HR0 := aM_ hr0
 have HC0 := aM_ hc0
 clear hr0 hc0
 have H : (if (wrap64 (a1 - (l0.length : Int))) < 0 then (some (-1)) else (some (wrap64 (a1 - (l0.length : Int))))) = some r := h
 clear h
 by_cases c3 : (wrap64 (a1 - (l0.length : Int))) < 0
 ·rw [if_pos c3] at H
  have c3b0 : decide ((wrap64 (a1 - (l0.length : Int))) < 0) = true := decide_eq_true c3
  clear c3
  obtain rfl := sJ_ H
  go_enter Try.func58,Try.ntmps58
  go_wp2
  go_ret
  exact ⟨by first | rfl | (simp;done) | (simp [*];done),by repeat (first | exact Drawn0.refl _ | apply Drawn0.step)⟩
 ·rw [if_neg c3] at H
  have c3b0 : decide ((wrap64 (a1 - (l0.length : Int))) < 0) = false := decide_eq_false c3
  clear c3
  obtain rfl := sJ_ H
  go_enter Try.func58,Try.ntmps58
  go_wp2
  go_ret
  exact ⟨by first | rfl | (simp;done) | (simp [*];done),by repeat (first | exact Drawn0.refl _ | apply Drawn0.step)⟩
def laws_szInsS.f (l0 : List (S208)) (a1 : Int) : Option (Int) := if (wrap64 (a1 - (l0.length : Int))) < 0 then (some (-1)) else (some (wrap64 (a1 - (l0.length : Int))))
set_option maxHeartbeats 8000000 in
theorem laws_szInsS.calls (A0 : Option Addr) (c0 : Nat) (l0 : List (S208)) (a1 : Int) (r : Int) (w : World) (hr0 : Kd.C k208 w A0 l0.length l0) (hc0 : l0.length ≤ c0) (h : laws_szInsS.f l0 a1 = some r) :
  Calls Try.prog 123 #[.slice A0 l0.length c0,.int .i64 a1] w fun e w' => e = .returned (.int .i64 r) ∧ Drawn0 w w' := by
 have HR0 := aM_ hr0
 have HC0 := aM_ hc0
 clear hr0 hc0
 have H : (if (wrap64 (a1 - (l0.length : Int))) < 0 then (some (-1)) else (some (wrap64 (a1 - (l0.length : Int))))) = some r := h
 clear h
 by_cases c3 : (wrap64 (a1 - (l0.length : Int))) < 0
 ·rw [if_pos c3] at H
  have c3b0 : decide ((wrap64 (a1 - (l0.length : Int))) < 0) = true := decide_eq_true c3
  clear c3
  obtain rfl := sJ_ H
  go_enter Try.func123,Try.ntmps123
  go_wp2
  go_ret
  exact ⟨by first | rfl | (simp;done) | (simp [*];done),by repeat (first | exact Drawn0.refl _ | apply Drawn0.step)⟩
 ·rw [if_neg c3] at H
  have c3b0 : decide ((wrap64 (a1 - (l0.length : Int))) < 0) = false := decide_eq_false c3
  clear c3
  obtain rfl := sJ_ H
  go_enter Try.func123,Try.ntmps123
  go_wp2
  go_ret
  exact ⟨by first | rfl | (simp;done) | (simp [*];done),by repeat (first | exact Drawn0.refl _ | apply Drawn0.step)⟩
def laws_szInsSS.l0 : Nat → List (List (S208)) → Int → Int → Option (Int)
  | 0,_,_,_ => none
  | k + 1,x0,x1,x5 => if x5 < (x0.length : Int) then (if 0 ≤ x5 then ((laws_szInsS.f (rd_L2 x0 x5) x1).bind fun t102 => (if t102 < 0 then (some (-1)) else (laws_szInsSS.l0 k x0 t102 (wrap64 (x5 + 1))))) else (none)) else (some x1)
def laws_szInsSS.f (k : Nat) (l0 : List (List (S208))) (a1 : Int) : Option (Int) := if (wrap64 (a1 - (l0.length : Int))) < 0 then (some (-1)) else (laws_szInsSS.l0 k l0 (wrap64 (a1 - (l0.length : Int))) 0)
set_option maxHeartbeats 8000000 in
theorem laws_szInsSS.calls (k : Nat) (A0 : Option Addr) (c0 : Nat) (l0 : List (List (S208))) (a1 : Int) (r : Int) (w : World) (hr0 : Kd.C (Kd.slice 208 k208) w A0 l0.length l0) (hc0 : l0.length ≤ c0) (h : laws_szInsSS.f k l0 a1 = some r) :
  Calls Try.prog 59 #[.slice A0 l0.length c0,.int .i64 a1] w fun e w' => e = .returned (.int .i64 r) ∧ Drawn0 w w' := by
 have HR0 := aM_ hr0
 have HC0 := aM_ hc0
 clear hr0 hc0
 have H : (if (wrap64 (a1 - (l0.length : Int))) < 0 then (some (-1)) else (laws_szInsSS.l0 k l0 (wrap64 (a1 - (l0.length : Int))) 0)) = some r := h
 clear h
 by_cases c3 : (wrap64 (a1 - (l0.length : Int))) < 0
 ·rw [if_pos c3] at H
  have c3b0 : decide ((wrap64 (a1 - (l0.length : Int))) < 0) = true := decide_eq_true c3
  clear c3
  obtain rfl := sJ_ H
  go_enter Try.func59,Try.ntmps59
  go_wp2
  go_ret
  exact ⟨by first | rfl | (simp;done) | (simp [*];done),by repeat (first | exact Drawn0.refl _ | apply Drawn0.step)⟩
 ·rw [if_neg c3] at H
  have c3b0 : decide ((wrap64 (a1 - (l0.length : Int))) < 0) = false := decide_eq_false c3
  clear c3
  have H' := aM_ H
  clear H
  go_enter Try.func59,Try.ntmps59
  go_wp2
  go_loopg [1,5] k (fun kq v1 v5 w' => ∃ (x1_1 : Int) (x5_1 : Int),v1 = .int .i64 x1_1 ∧ v5 = .int .i64 x5_1 ∧ Aside0 (laws_szInsSS.l0 kq l0 x1_1 x5_1 = some r) ∧ Aside0 (kq ≤ k) ∧ Drawn0 w w')
  case atStart => exact ⟨(wrap64 (a1 - (l0.length : Int))),(0),(by first | rfl | (simp;done) | (simp [*];done)),(by first | rfl | (simp;done) | (simp [*];done)),H',⟨Nat.le_refl _⟩,by repeat (first | exact Drawn0.refl _ | apply Drawn0.step)⟩
  case round =>
   clear H'
   (try clear p2);(try clear c3);(try clear c3b0)
   obtain ⟨x1_1,x5_1,rfl,rfl,HA,HK1,⟨m1,rfl⟩⟩ := hrel
   cases gk with
   | zero => exact absurd HA.out (by simp [laws_szInsSS.l0])
   | succ k1 =>
    have H := HA.out
    clear HA
    simp only [laws_szInsSS.l0] at H
    by_cases c4 : x5_1 < (l0.length : Int)
    ·rw [if_pos c4] at H
     have c4b0 : decide (x5_1 < (l0.length : Int)) = true := decide_eq_true c4
     clear c4
     by_cases c5 : 0 ≤ x5_1
     ·rw [if_pos c5] at H
      have c5b0 : decide (0 ≤ x5_1) = true := decide_eq_true c5
      clear c5
      replace H := Option.bind_eq_some_iff.mp H
      obtain ⟨t102,A60,H⟩ := H
      replace H : (if t102 < 0 then (some (-1)) else (laws_szInsSS.l0 k1 l0 t102 (wrap64 (x5_1 + 1)))) = some r := H
      have A6 := aM_ A60
      clear A60
      by_cases c7 : t102 < 0
      ·rw [if_pos c7] at H
       have c7b0 : decide (t102 < 0) = true := decide_eq_true c7
       clear c7
       obtain rfl := sJ_ H
       have p101 : 0 ≤ (x5_1 : Int) := pD_
       have q101 : x5_1 < (l0.length : Int) := pD_
       obtain ⟨ad101,A101_0,c101_0,e101,hx101_0,hl101_0,hi101_0⟩ := at_L2 HR0.out x5_1 p101 q101
       cases e101
       have HR101_0 := aM_ hi101_0
       have HC101_0 := aM_ hl101_0
       clear hi101_0 hl101_0
       replace p101 := eq_true p101
       replace q101 := eq_true q101
       go_wp2_with (first | (refine gL_ (some 23) Try.func123 #[.slice A101_0 (rd_L2 l0 x5_1).length c101_0,.int .i64 x1_1] ?_;(with_reducible refine (laws_szInsS.calls _ _ (rd_L2 l0 x5_1) x1_1 t102 _ ?side1 HC101_0.out A6.out).mono ?_);(case side1 => exact cS_ HR101_0.out);rintro e w' ⟨rfl,⟨nd,rfl⟩⟩;refine ⟨_,rfl,?_⟩))
       go_ret
       exact ⟨by first | rfl | (simp;done) | (simp [*];done),by repeat (first | exact Drawn0.refl _ | apply Drawn0.step)⟩
      ·rw [if_neg c7] at H
       have c7b0 : decide (t102 < 0) = false := decide_eq_false c7
       clear c7
       have H' := aM_ H
       clear H
       have p101 : 0 ≤ (x5_1 : Int) := pD_
       have q101 : x5_1 < (l0.length : Int) := pD_
       obtain ⟨ad101,A101_0,c101_0,e101,hx101_0,hl101_0,hi101_0⟩ := at_L2 HR0.out x5_1 p101 q101
       cases e101
       have HR101_0 := aM_ hi101_0
       have HC101_0 := aM_ hl101_0
       clear hi101_0 hl101_0
       replace p101 := eq_true p101
       replace q101 := eq_true q101
       go_wp2_with (first | (refine gL_ (some 23) Try.func123 #[.slice A101_0 (rd_L2 l0 x5_1).length c101_0,.int .i64 x1_1] ?_;(with_reducible refine (laws_szInsS.calls _ _ (rd_L2 l0 x5_1) x1_1 t102 _ ?side1 HC101_0.out A6.out).mono ?_);(case side1 => exact cS_ HR101_0.out);rintro e w' ⟨rfl,⟨nd,rfl⟩⟩;refine ⟨_,rfl,?_⟩))
       go_roundg k1
       case measure => have := HK1.out;omega
       case rel => exact ⟨(t102),(wrap64 (x5_1 + 1)),(by first | rfl | (simp;done) | (simp [*];done)),(by first | rfl | (simp;done) | (simp [*];done)),H',⟨by have := HK1.out;omega⟩,by repeat (first | exact Drawn0.refl _ | apply Drawn0.step)⟩
     ·rw [if_neg c5] at H
      exact absurd H (by simp)
    ·rw [if_neg c4] at H
     have c4b0 : decide (x5_1 < (l0.length : Int)) = false := decide_eq_false c4
     clear c4
     obtain rfl := sJ_ H
     go_wp2
     go_ret
     exact ⟨by first | rfl | (simp;done) | (simp [*];done),by repeat (first | exact Drawn0.refl _ | apply Drawn0.step)⟩
def laws_szProg.f (k : Nat) (l0_0 : List Int) (l0_1 : List (List (S208))) (a1 : Int) : Option (Int) := (laws_szIntS.f l0_0 a1).bind fun t104 => (if t104 < 0 then (some (-1)) else ((laws_szInsSS.f k l0_1 t104).bind fun t105 => (if t105 < 0 then (some (-1)) else (some t105))))
set_option maxHeartbeats 8000000 in
theorem laws_szProg.calls (k : Nat) (A0_0 : Option Addr) (c0_0 : Nat) (l0_0 : List Int) (A0_1 : Option Addr) (c0_1 : Nat) (l0_1 : List (List (S208))) (a1 : Int) (r : Int) (w : World) (hr0_0 : Kd.C (Kd.int .i64) w A0_0 l0_0.length l0_0) (hc0_0 : l0_0.length ≤ c0_0) (hr0_1 : Kd.C (Kd.slice 208 k208) w A0_1 l0_1.length l0_1) (hc0_1 : l0_1.length ≤ c0_1) (h : laws_szProg.f k l0_0 l0_1 a1 = some r) :
  Calls Try.prog 15 #[.agg #[.slice A0_0 l0_0.length c0_0,.slice A0_1 l0_1.length c0_1],.int .i64 a1] w fun e w' => e = .returned (.int .i64 r) ∧ Below w.heap.size w w' := by
 have hu38 := Try.underlying38
 have HR0_0 := aM_ hr0_0
 have HC0_0 := aM_ hc0_0
 clear hr0_0 hc0_0
 have HR0_1 := aM_ hr0_1
 have HC0_1 := aM_ hc0_1
 clear hr0_1 hc0_1
 have HB := aM_ (Below.refl w.heap.size w)
 have H : ((laws_szIntS.f l0_0 a1).bind fun t104 => (if t104 < 0 then (some (-1)) else ((laws_szInsSS.f k l0_1 t104).bind fun t105 => (if t105 < 0 then (some (-1)) else (some t105))))) = some r := h
 clear h
 replace H := Option.bind_eq_some_iff.mp H
 obtain ⟨t104,A30,H⟩ := H
 replace H : (if t104 < 0 then (some (-1)) else ((laws_szInsSS.f k l0_1 t104).bind fun t105 => (if t105 < 0 then (some (-1)) else (some t105)))) = some r := H
 have A3 := aM_ A30
 clear A30
 by_cases c4 : t104 < 0
 ·rw [if_pos c4] at H
  have c4b0 : decide (t104 < 0) = true := decide_eq_true c4
  clear c4
  obtain rfl := sJ_ H
  go_enter Try.func15,Try.ntmps15
  go_wp2_with (first | (refine bX_ 2 (cs := #[.slice A0_0 l0_0.length c0_0,.slice A0_1 l0_1.length c0_1]) (t := 38) ?_;intro gb103 hg w5 hbox hb;have BK103 := aM_ (hbox);have GE103 := aM_ (sZ_ hg HB.out);replace HB := aM_ (sT_ HB.out hb);clear hb hbox hg;have z_6 := bR2_ BK103.out) | (refine gL_ (some 8) Try.func58 #[.slice A0_0 l0_0.length c0_0,.int .i64 a1] ?_;(with_reducible refine (laws_szIntS.calls _ _ l0_0 a1 t104 _ ?side1 HC0_0.out A3.out).mono ?_);(case side1 => exact cS_ (Kd.C_below HR0_0.out HB.out));rintro e w' ⟨rfl,⟨nd,rfl⟩⟩;refine ⟨_,rfl,?_⟩))
  go_ret
  exact fI_ HB.out
 ·rw [if_neg c4] at H
  have c4b0 : decide (t104 < 0) = false := decide_eq_false c4
  clear c4
  replace H := Option.bind_eq_some_iff.mp H
  obtain ⟨t105,A70,H⟩ := H
  replace H : (if t105 < 0 then (some (-1)) else (some t105)) = some r := H
  have A7 := aM_ A70
  clear A70
  by_cases c8 : t105 < 0
  ·rw [if_pos c8] at H
   have c8b0 : decide (t105 < 0) = true := decide_eq_true c8
   clear c8
   obtain rfl := sJ_ H
   go_enter Try.func15,Try.ntmps15
   go_wp2_with (first | (refine bX_ 2 (cs := #[.slice A0_0 l0_0.length c0_0,.slice A0_1 l0_1.length c0_1]) (t := 38) ?_;intro gb103 hg w9 hbox hb;have BK103 := aM_ (hbox);have GE103 := aM_ (sZ_ hg HB.out);replace HB := aM_ (sT_ HB.out hb);clear hb hbox hg;have z_10 := bR2_ BK103.out) | (refine gL_ (some 8) Try.func58 #[.slice A0_0 l0_0.length c0_0,.int .i64 a1] ?_;(with_reducible refine (laws_szIntS.calls _ _ l0_0 a1 t104 _ ?side1 HC0_0.out A3.out).mono ?_);(case side1 => exact cS_ (Kd.C_below HR0_0.out HB.out));rintro e w' ⟨rfl,⟨nd,rfl⟩⟩;refine ⟨_,rfl,?_⟩) | (refine gL_ (some 14) Try.func59 #[.slice A0_1 l0_1.length c0_1,.int .i64 t104] ?_;(with_reducible refine (laws_szInsSS.calls k _ _ l0_1 t104 t105 _ ?side1 HC0_1.out A7.out).mono ?_);(case side1 => exact cS_ (Kd.C_below HR0_1.out (gB_ HB.out)));rintro e w' ⟨rfl,⟨nd,rfl⟩⟩;refine ⟨_,rfl,?_⟩))
   go_ret
   exact fI_ HB.out
  ·rw [if_neg c8] at H
   have c8b0 : decide (t105 < 0) = false := decide_eq_false c8
   clear c8
   obtain rfl := sJ_ H
   go_enter Try.func15,Try.ntmps15
   go_wp2_with (first | (refine bX_ 2 (cs := #[.slice A0_0 l0_0.length c0_0,.slice A0_1 l0_1.length c0_1]) (t := 38) ?_;intro gb103 hg w11 hbox hb;have BK103 := aM_ (hbox);have GE103 := aM_ (sZ_ hg HB.out);replace HB := aM_ (sT_ HB.out hb);clear hb hbox hg;have z_12 := bR2_ BK103.out) | (refine gL_ (some 8) Try.func58 #[.slice A0_0 l0_0.length c0_0,.int .i64 a1] ?_;(with_reducible refine (laws_szIntS.calls _ _ l0_0 a1 t104 _ ?side1 HC0_0.out A3.out).mono ?_);(case side1 => exact cS_ (Kd.C_below HR0_0.out HB.out));rintro e w' ⟨rfl,⟨nd,rfl⟩⟩;refine ⟨_,rfl,?_⟩) | (refine gL_ (some 14) Try.func59 #[.slice A0_1 l0_1.length c0_1,.int .i64 t104] ?_;(with_reducible refine (laws_szInsSS.calls k _ _ l0_1 t104 t105 _ ?side1 HC0_1.out A7.out).mono ?_);(case side1 => exact cS_ (Kd.C_below HR0_1.out (gB_ HB.out)));rintro e w' ⟨rfl,⟨nd,rfl⟩⟩;refine ⟨_,rfl,?_⟩))
   go_ret
   exact fI_ HB.out
def laws_toIntS.l0 : Nat → List Int → List Int → Int → Option (List Int)
  | 0,_,_,_ => none
  | k + 1,x0,x3,x4 => if x4 < (x0.length : Int) then (if 0 ≤ x4 then (if x4 < (x3.length : Int) then (laws_toIntS.l0 k x0 (x3.set (x4 : Int).toNat (rd x0 x4)) (wrap64 (x4 + 1))) else (none)) else (none)) else (some x3)
def laws_toIntS.f (k : Nat) (l0 : List Int) : Option (List Int) := if 0 ≤ (l0.length : Int) then (if ((l0.length : Int) : Int).toNat ≤ 35184372088832 then (laws_toIntS.l0 k l0 (List.replicate ((l0.length : Int) : Int).toNat 0) 0) else (none)) else (none)
set_option maxHeartbeats 8000000 in
theorem laws_toIntS.calls (k : Nat) (A0 : Option Addr) (c0 : Nat) (l0 : List Int) (r : List Int) (w : World) (hr0 : Kd.C (Kd.int .i64) w A0 l0.length l0) (hc0 : l0.length ≤ c0) (h : laws_toIntS.f k l0 = some r) :
  Calls Try.prog 61 #[.slice A0 l0.length c0] w fun e w' => ∃ v0_ : Value,e = .returned (v0_) ∧ Kd.R (Kd.int .i64) 3 w' w.heap.size (fun _ => True) v0_ r ∧ Below w.heap.size w w' := by
 have HR0 := aM_ hr0
 have HC0 := aM_ hc0
 clear hr0 hc0
 have HB := aM_ (Below.refl w.heap.size w)
 have H : (if 0 ≤ (l0.length : Int) then (if ((l0.length : Int) : Int).toNat ≤ 35184372088832 then (laws_toIntS.l0 k l0 (List.replicate ((l0.length : Int) : Int).toNat 0) 0) else (none)) else (none)) = some r := h
 clear h
 by_cases c2 : 0 ≤ (l0.length : Int)
 ·rw [if_pos c2] at H
  have c2b0 := eq_true c2
  have c2b1 : decide (0 ≤ (l0.length : Int)) = true := decide_eq_true c2
  clear c2
  by_cases c3 : ((l0.length : Int) : Int).toNat ≤ 35184372088832
  ·rw [if_pos c3] at H
   have c3b0 := eq_true c3
   have c3b1 : decide (((l0.length : Int) : Int).toNat ≤ 35184372088832) = true := decide_eq_true c3
   clear c3
   obtain ⟨y106,hy106⟩ : ∃ y_ : List Int,y_ = (List.replicate ((l0.length : Int) : Int).toNat 0) := ⟨_,rfl⟩
   replace H : (laws_toIntS.l0 k l0 y106 0) = some r := by first | (rw [hy106];with_reducible exact H) | (have H2_ := (Option.bind_some _ _).symm.trans H;rw [hy106];with_reducible exact H2_) | (have H2_ := (Option.bind_some _ _).symm.trans H;with_reducible exact H2_) | with_reducible exact H | (rw [hy106];exact H) | exact H
   have Ny106 := aM_ hy106
   clear hy106
   have H' := aM_ H
   clear H
   go_enter Try.func61,Try.ntmps61
   go_wp2_with (first | ((with_reducible refine gate_dst (N := 7) rfl ?_);refine Kd.R_make (Kd.int .i64) _ 3 rfl (N := 7) rfl 31 _ _ rfl (l0.length : Int) rfl rfl Try.underlying31 (.int .i64 0) 8 info3 rfl (by decide) (by omega) 0 (ok := fun _ => True) (okp := fun _ => True) rfl (fun _ hk => hk) trivial (pD_) (Nat.le_trans (Nat.mul_le_mul_right _ (pD_ : (l0.length : Int).toNat ≤ 35184372088832)) (by omega)) (Below.refl _ _) (Nat.le_refl _) ?_;intro v107 w4 ho5 hb hg_ hnew_;clear hg_ hnew_;(first | rw [← Ny106.out] at ho5 | (simp only [Int.reduceToNat] at ho5;rw [← Ny106.out] at ho5));have HO108 := aM_ (Kd.R_lower ho5 (below_size (gB_ HB.out)));replace HB := aM_ (sT_ HB.out hb);clear hb ho5))
   go_loopg [4] k (fun kq v4 w' => ∃ (x3_1 : List Int) (x4_1 : Int),v4 = .int .i64 x4_1 ∧ Aside0 (laws_toIntS.l0 kq l0 x3_1 x4_1 = some r) ∧ Aside0 (kq ≤ k) ∧ Aside0 (Kd.R (Kd.int .i64) 3 w' w.heap.size (fun _ => True) v107 x3_1) ∧ Aside0 (Below w.heap.size w w'))
   case atStart => exact ⟨(y106),(0),(by first | rfl | (simp;done) | (simp [*];done)),H',⟨Nat.le_refl _⟩,⟨by (with_reducible repeat (first | apply rA_ | apply rN_ | apply rD_));exact HO108.out⟩,⟨gW_ HB.out⟩⟩
   case round =>
    clear H'
    (try clear c2);(try clear c2b0);(try clear c2b1);(try clear p2);(try clear c3);(try clear c3b0);(try clear c3b1)
    obtain ⟨x3_1,x4_1,rfl,HA,HK1,HO_3,HB⟩ := hrel
    cases gk with
    | zero => exact absurd HA.out (by simp [laws_toIntS.l0])
    | succ k1 =>
     have H := HA.out
     clear HA
     simp only [laws_toIntS.l0] at H
     by_cases c6 : x4_1 < (l0.length : Int)
     ·rw [if_pos c6] at H
      have c6b0 : decide (x4_1 < (l0.length : Int)) = true := decide_eq_true c6
      clear c6
      by_cases c7 : 0 ≤ x4_1
      ·rw [if_pos c7] at H
       have c7b0 : decide (0 ≤ x4_1) = true := decide_eq_true c7
       clear c7
       by_cases c8 : x4_1 < (x3_1.length : Int)
       ·rw [if_pos c8] at H
        have c8b0 : decide (x4_1 < (x3_1.length : Int)) = true := decide_eq_true c8
        clear c8
        obtain ⟨y110,hy110⟩ : ∃ y_ : List Int,y_ = (x3_1.set (x4_1 : Int).toNat (rd l0 x4_1)) := ⟨_,rfl⟩
        replace H : (laws_toIntS.l0 k1 l0 y110 (wrap64 (x4_1 + 1))) = some r := by first | (rw [hy110];with_reducible exact H) | (have H2_ := (Option.bind_some _ _).symm.trans H;rw [hy110];with_reducible exact H2_) | (have H2_ := (Option.bind_some _ _).symm.trans H;with_reducible exact H2_) | with_reducible exact H | (rw [hy110];exact H) | exact H
        have Ny110 := aM_ hy110
        clear hy110
        have H' := aM_ H
        clear H
        have p109 : 0 ≤ (x4_1 : Int) := pD_
        have q109 : x4_1 < (l0.length : Int) := pD_
        obtain ⟨ad109,e109,hx109_0⟩ := Kd.at_int HR0.out x4_1 p109 q109
        cases e109
        replace hx109_0 := cB_ HB.out hx109_0
        replace p109 := eq_true p109
        replace q109 := eq_true q109
        have p9 : 0 ≤ (x4_1 : Int) := pD_
        have q9 : (x4_1 : Int) < ((x3_1.length : Int) : Int) := pD_
        obtain ⟨go9,co9,eo9,gb9,gl9,cl9,HG9⟩ := Kd.R_form HO_3.out (by omega)
        (first | cases eo9 | (injection eo9 with ea_ en_ ec_;(first | subst ea_ | (injection ea_ with ea_;subst ea_));subst ec_;clear en_))
        have GB9 := aM_ gb9
        have GG9 := aM_ HG9
        clear gb9 gl9 HG9
        obtain ⟨hx9_0,hf9_0⟩ := Kd.R_celln 0 HO_3.out (x4_1 : Int) p9 q9
        replace p9 := eq_true p9
        replace q9 := eq_true q9
        have HP10 := Kd.R_putg HO_3.out (x4_1 : Int) (rd l0 x4_1)
        go_wp2_with (first | ((with_reducible refine gate_store (t := 3) (p := 20) rfl ?_);refine store_event (t := 3) (p := 20) (v := ?vo_w11) (w1 := (wr.setCell ⟨go9,(x4_1 : Int).toNat,none⟩ (.int .i64 (rd l0 x4_1)))) ?hg ?ho ?hn ?hr ?_;(case ho => rfl);(case hg => rfl);(case hn => rfl);(case hr => first | (go_simp;done) | (go_simp;rfl));intro w11 hw;have hg : wr.grownBy w11 (some go9) := (by rw [hw];exact HP10.2);have hp_ : Kd.R (Kd.int .i64) 3 w11 w.heap.size (fun _ => True) (.slice (some ⟨go9,0,none⟩) x3_1.length co9) y110 := (by rw [hw,Ny110.out];exact HP10.1);clear HP10;replace HO_3 := aM_ (hp_);replace HB := aM_ ((by rw [hw];exact below_set (HB.out) GB9.out : Below w.heap.size w w11));clear hg hw hp_))
        go_roundg k1
        case measure => have := HK1.out;omega
        case rel => exact ⟨(y110),(wrap64 (x4_1 + 1)),(by first | rfl | (simp;done) | (simp [*];done)),H',⟨by have := HK1.out;omega⟩,⟨by (with_reducible repeat (first | apply rA_ | apply rN_ | apply rD_));exact HO_3.out⟩,⟨gW_ HB.out⟩⟩
       ·rw [if_neg c8] at H
        exact absurd H (by simp)
      ·rw [if_neg c7] at H
       exact absurd H (by simp)
     ·rw [if_neg c6] at H
      have c6b0 : decide (x4_1 < (l0.length : Int)) = false := decide_eq_false c6
      clear c6
      obtain rfl := sJ_ H
      go_wp2
      go_ret
      exact ⟨_,fR_,by (with_reducible repeat (first | apply rA_ | apply rN_ | apply rD_));exact HO_3.out,gB_ HB.out⟩
  ·rw [if_neg c3] at H
   exact absurd H (by simp)
 ·rw [if_neg c2] at H
  exact absurd H (by simp)
def laws_toIns.f (a0_0 : Int) (a0_1 : Int) (a0_2 : Int) (a0_3 : Int) (a0_4 : Int) : Option (Int × Int × Int × Int × Int) := some (a0_0,a0_1,a0_2,a0_3,a0_4)
set_option maxHeartbeats 8000000 in
theorem laws_toIns.calls (a0_0 : Int) (a0_1 : Int) (a0_2 : Int) (a0_3 : Int) (a0_4 : Int) (r1 : Int) (r2 : Int) (r3 : Int) (r4 : Int) (r5 : Int) (w : World) (h : laws_toIns.f a0_0 a0_1 a0_2 a0_3 a0_4 = some (r1,r2,r3,r4,r5)) :
  Calls Try.prog 163 #[.agg #[.int .i64 a0_0,.int .i64 a0_1,.int .i64 a0_2,.int .i64 a0_3,.int .i64 a0_4]] w fun e w' => e = .returned (.agg #[.int .i64 r1,.int .i64 r2,.int .i64 r3,.int .i64 r4,.int .i64 r5]) ∧ Below w.heap.size w w' := by
 have hu208 := Try.underlying208
 have hu192 := Try.underlying192
 have HB := aM_ (Below.refl w.heap.size w)
 have H : (some (a0_0,a0_1,a0_2,a0_3,a0_4)) = some (r1,r2,r3,r4,r5) := h
 clear h
 simp only [Option.some.injEq,Prod.mk.injEq] at H
 obtain ⟨rfl,rfl,rfl,rfl,rfl⟩ := H
 go_enter Try.func163,Try.ntmps163
 go_wp2_with (first | (refine bX_ 1 (cs := #[.int .i64 a0_0,.int .i64 a0_1,.int .i64 a0_2,.int .i64 a0_3,.int .i64 a0_4]) (t := 208) ?_;intro gb111 hg w2 hbox hb;have BK111 := aM_ (hbox);have GE111 := aM_ (sZ_ hg HB.out);replace HB := aM_ (sT_ HB.out hb);clear hb hbox hg) | (refine bX_ 2 (cs := #[.int .i64 0,.int .i64 0,.int .i64 0,.int .i64 0,.int .i64 0]) (t := 192) ?_;intro gb112 hg w3 hbox hb;have BK112 := aM_ (hbox);have GE112 := aM_ (sZ_ hg HB.out);have NB111_112 := aM_ (nL_ hg BK111.out);have NB112_111 := aM_ (nG_ hg BK111.out);replace BK111 := aM_ (nB_ BK111.out hb);replace HB := aM_ (sT_ HB.out hb);clear hb hbox hg) | (refine bX_ 3 (cs := #[.int .i64 0,.int .i64 0,.int .i64 0,.int .i64 0,.int .i64 0]) (t := 192) ?_;intro gb113 hg w4 hbox hb;have BK113 := aM_ (hbox);have GE113 := aM_ (sZ_ hg HB.out);have NB111_113 := aM_ (nL_ hg BK111.out);have NB113_111 := aM_ (nG_ hg BK111.out);have NB112_113 := aM_ (nL_ hg BK112.out);have NB113_112 := aM_ (nG_ hg BK112.out);replace BK111 := aM_ (nB_ BK111.out hb);replace BK112 := aM_ (nB_ BK112.out hb);replace HB := aM_ (sT_ HB.out hb);clear hb hbox hg;have hnb5 := nn_ NB111_112 NB112_111;have hnb6 := nn_ NB111_113 NB113_111;have z_7 := bR5_ BK111.out;have hnb8 := nn_ NB113_112 NB112_113;have z_9 := bR5_ BK113.out;have z_10 := bR5_ BK112.out))
 refine bodyPost_ret (results_cell_row rfl _ _ gb112 192 #[.int .i64 a0_0,.int .i64 a0_1,.int .i64 a0_2,.int .i64 a0_3,.int .i64 a0_4] (0,0) _ rfl (by (with_reducible repeat (first | refine bN_ ?_ _ | refine bD_ ?_ | refine bA_ ?_ _));refine blk_put (cs := #[.int .i64 a0_0,.int .i64 a0_1,.int .i64 a0_2,.int .i64 a0_3,.int .i64 0]) ?_ 4 _ rfl;refine blk_put (cs := #[.int .i64 a0_0,.int .i64 a0_1,.int .i64 a0_2,.int .i64 0,.int .i64 0]) ?_ 3 _ rfl;refine blk_put (cs := #[.int .i64 a0_0,.int .i64 a0_1,.int .i64 0,.int .i64 0,.int .i64 0]) ?_ 2 _ rfl;refine blk_put (cs := #[.int .i64 a0_0,.int .i64 0,.int .i64 0,.int .i64 0,.int .i64 0]) ?_ 1 _ rfl;refine blk_put (cs := #[.int .i64 0,.int .i64 0,.int .i64 0,.int .i64 0,.int .i64 0]) ?_ 0 _ rfl;exact rWf_ BK112.out) Try.underlying192 rfl (by kernel_rfl)) rfl ?_
 exact fI_ HB.out
def laws_toInsS.l0 : Nat → List (S208) → List (S192) → Int → Option ((List (S192)))
  | 0,_,_,_ => none
  | k + 1,x0,x3,x4 => if x4 < (x0.length : Int) then (if 0 ≤ x4 then ((laws_toIns.f ((rd_T208 x0 x4).f0) ((rd_T208 x0 x4).f1) ((rd_T208 x0 x4).f2) ((rd_T208 x0 x4).f3) ((rd_T208 x0 x4).f4)).bind fun bt118 => (if x4 < (x3.length : Int) then (laws_toInsS.l0 k x0 (x3.set (x4 : Int).toNat (⟨bt118.1,bt118.2.1,bt118.2.2.1,bt118.2.2.2.1,bt118.2.2.2.2⟩ : S192)) (wrap64 (x4 + 1))) else (none))) else (none)) else (some x3)
def laws_toInsS.f (k : Nat) (l0 : List (S208)) : Option ((List (S192))) := if 0 ≤ (l0.length : Int) then (if ((l0.length : Int) : Int).toNat ≤ 7036874417766 then (laws_toInsS.l0 k l0 (List.replicate ((l0.length : Int) : Int).toNat z192) 0) else (none)) else (none)
set_option maxHeartbeats 8000000 in
theorem laws_toInsS.calls (k : Nat) (A0 : Option Addr) (c0 : Nat) (l0 : List (S208)) (r : List (S192)) (w : World) (hr0 : Kd.C k208 w A0 l0.length l0) (hc0 : l0.length ≤ c0) (h : laws_toInsS.f k l0 = some r) :
  Calls Try.prog 125 #[.slice A0 l0.length c0] w fun e w' => ∃ v0_ : Value,e = .returned (v0_) ∧ Kd.R k192 192 w' w.heap.size (fun _ => True) v0_ r ∧ Below w.heap.size w w' := by
 have hu208 := Try.underlying208
 have hu192 := Try.underlying192
 have HR0 := aM_ hr0
 have HC0 := aM_ hc0
 clear hr0 hc0
 have HB := aM_ (Below.refl w.heap.size w)
 have H : (if 0 ≤ (l0.length : Int) then (if ((l0.length : Int) : Int).toNat ≤ 7036874417766 then (laws_toInsS.l0 k l0 (List.replicate ((l0.length : Int) : Int).toNat z192) 0) else (none)) else (none)) = some r := h
 clear h
 by_cases c2 : 0 ≤ (l0.length : Int)
 ·rw [if_pos c2] at H
  have c2b0 := eq_true c2
  have c2b1 : decide (0 ≤ (l0.length : Int)) = true := decide_eq_true c2
  clear c2
  by_cases c3 : ((l0.length : Int) : Int).toNat ≤ 7036874417766
  ·rw [if_pos c3] at H
   have c3b0 := eq_true c3
   have c3b1 : decide (((l0.length : Int) : Int).toNat ≤ 7036874417766) = true := decide_eq_true c3
   clear c3
   obtain ⟨y114,hy114⟩ : ∃ y_ : List (S192),y_ = (List.replicate ((l0.length : Int) : Int).toNat z192) := ⟨_,rfl⟩
   replace H : (laws_toInsS.l0 k l0 y114 0) = some r := by first | (rw [hy114];with_reducible exact H) | (have H2_ := (Option.bind_some _ _).symm.trans H;rw [hy114];with_reducible exact H2_) | (have H2_ := (Option.bind_some _ _).symm.trans H;with_reducible exact H2_) | with_reducible exact H | (rw [hy114];exact H) | exact H
   have Ny114 := aM_ hy114
   clear hy114
   have H' := aM_ H
   clear H
   go_enter Try.func125,Try.ntmps125
   go_wp2_with (first | ((with_reducible refine gate_dst (N := 7) rfl ?_);refine Kd.R_make k192 _ 192 rfl (N := 7) rfl 162 _ _ rfl (l0.length : Int) rfl rfl Try.underlying162 (.agg #[(.int .i64 0),(.int .i64 0),(.int .i64 0),(.int .i64 0),(.int .i64 0)]) 40 info192 rfl (by decide) (by omega) z192 (ok := fun _ => True) (okp := fun _ => True) (k192_mkM _ _ _ z192 ) (fun _ hk => hk) trivial (pD_) (Nat.le_trans (Nat.mul_le_mul_right _ (pD_ : (l0.length : Int).toNat ≤ 7036874417766)) (by omega)) (Below.refl _ _) (Nat.le_refl _) ?_;intro v115 w4 ho5 hb hg_ hnew_;clear hg_ hnew_;(first | rw [← Ny114.out] at ho5 | (simp only [Int.reduceToNat] at ho5;rw [← Ny114.out] at ho5));have HO116 := aM_ (Kd.R_lower ho5 (below_size (gB_ HB.out)));replace HB := aM_ (sT_ HB.out hb);clear hb ho5))
   go_loopg [4] k (fun kq v4 w' => ∃ (x3_1 : List (S192)) (x4_1 : Int),v4 = .int .i64 x4_1 ∧ Aside0 (laws_toInsS.l0 kq l0 x3_1 x4_1 = some r) ∧ Aside0 (kq ≤ k) ∧ Aside0 (Kd.R k192 192 w' w.heap.size (fun _ => True) v115 x3_1) ∧ Aside0 (Below w.heap.size w w'))
   case atStart => exact ⟨(y114),(0),(by first | rfl | (simp;done) | (simp [*];done)),H',⟨Nat.le_refl _⟩,⟨by (with_reducible repeat (first | apply rA_ | apply rN_ | apply rD_));exact HO116.out⟩,⟨gW_ HB.out⟩⟩
   case round =>
    clear H'
    (try clear c1);(try clear c2);(try clear c2b0);(try clear c2b1);(try clear p2);(try clear c3);(try clear c3b0);(try clear c3b1)
    obtain ⟨x3_1,x4_1,rfl,HA,HK1,HO_3,HB⟩ := hrel
    cases gk with
    | zero => exact absurd HA.out (by simp [laws_toInsS.l0])
    | succ k1 =>
     have H := HA.out
     clear HA
     simp only [laws_toInsS.l0] at H
     by_cases c6 : x4_1 < (l0.length : Int)
     ·rw [if_pos c6] at H
      have c6b0 : decide (x4_1 < (l0.length : Int)) = true := decide_eq_true c6
      clear c6
      by_cases c7 : 0 ≤ x4_1
      ·rw [if_pos c7] at H
       have c7b0 : decide (0 ≤ x4_1) = true := decide_eq_true c7
       clear c7
       replace H := Option.bind_eq_some_iff.mp H
       obtain ⟨⟨t118,t119,t120,t121,t122⟩,A80,H⟩ := H
       replace H : (if x4_1 < (x3_1.length : Int) then (laws_toInsS.l0 k1 l0 (x3_1.set (x4_1 : Int).toNat (⟨t118,t119,t120,t121,t122⟩ : S192)) (wrap64 (x4_1 + 1))) else (none)) = some r := H
       have A8 := aM_ A80
       clear A80
       by_cases c9 : x4_1 < (x3_1.length : Int)
       ·rw [if_pos c9] at H
        have c9b0 : decide (x4_1 < (x3_1.length : Int)) = true := decide_eq_true c9
        clear c9
        obtain ⟨y123,hy123⟩ : ∃ y_ : List (S192),y_ = (x3_1.set (x4_1 : Int).toNat (⟨t118,t119,t120,t121,t122⟩ : S192)) := ⟨_,rfl⟩
        replace H : (laws_toInsS.l0 k1 l0 y123 (wrap64 (x4_1 + 1))) = some r := by first | (rw [hy123];with_reducible exact H) | (have H2_ := (Option.bind_some _ _).symm.trans H;rw [hy123];with_reducible exact H2_) | (have H2_ := (Option.bind_some _ _).symm.trans H;with_reducible exact H2_) | with_reducible exact H | (rw [hy123];exact H) | exact H
        have Ny123 := aM_ hy123
        clear hy123
        have H' := aM_ H
        clear H
        have p117 : 0 ≤ (x4_1 : Int) := pD_
        have q117 : x4_1 < (l0.length : Int) := pD_
        obtain ⟨ad117,e117,hx117_0,hx117_1,hx117_2,hx117_3,hx117_4⟩ := at_T208 HR0.out x4_1 p117 q117
        cases e117
        replace hx117_0 := cB_ HB.out hx117_0
        replace hx117_1 := cB_ HB.out hx117_1
        replace hx117_2 := cB_ HB.out hx117_2
        replace hx117_3 := cB_ HB.out hx117_3
        replace hx117_4 := cB_ HB.out hx117_4
        replace p117 := eq_true p117
        replace q117 := eq_true q117
        go_wp2_with (first | (refine gL_ (some 20) Try.func163 #[.agg #[.int .i64 ((rd_T208 l0 x4_1).f0),.int .i64 ((rd_T208 l0 x4_1).f1),.int .i64 ((rd_T208 l0 x4_1).f2),.int .i64 ((rd_T208 l0 x4_1).f3),.int .i64 ((rd_T208 l0 x4_1).f4)]] ?_;(with_reducible refine (laws_toIns.calls ((rd_T208 l0 x4_1).f0) ((rd_T208 l0 x4_1).f1) ((rd_T208 l0 x4_1).f2) ((rd_T208 l0 x4_1).f3) ((rd_T208 l0 x4_1).f4) t118 t119 t120 t121 t122 _ A8.out).mono ?_);rintro e w11 ⟨rfl,hb⟩;refine ⟨_,rfl,?_⟩;replace HO_3 := aM_ (bR_ HO_3.out hb);replace HB := aM_ (sT_ HB.out hb);have p10 : 0 ≤ (x4_1 : Int) := pD_;have q10 : (x4_1 : Int) < ((x3_1.length : Int) : Int) := pD_;obtain ⟨go10,co10,eo10,gb10,gl10,cl10,HG10⟩ := Kd.R_form HO_3.out (by omega);(first | cases eo10 | (injection eo10 with ea_ en_ ec_;(first | subst ea_ | (injection ea_ with ea_;subst ea_));subst ec_;clear en_));have GB10 := aM_ gb10;have GG10 := aM_ HG10;clear gb10 gl10 HG10;obtain ⟨ce10,hcl10,hM10,hcc10,hfr10⟩ := Kd.R_elem HO_3.out z192 (x4_1 : Int) p10 q10;obtain rfl := k192_openM hM10;have hx10_0 : w11.cell? ⟨go10,(x4_1 : Int).toNat * 5,none⟩ = some (.int .i64 ((rd_T192 x3_1 x4_1).f0)) := hcc10 0 _ rfl;have hx10_1 : w11.cell? ⟨go10,(x4_1 : Int).toNat * 5 + 1,none⟩ = some (.int .i64 ((rd_T192 x3_1 x4_1).f1)) := hcc10 1 _ rfl;have hx10_2 : w11.cell? ⟨go10,(x4_1 : Int).toNat * 5 + 2,none⟩ = some (.int .i64 ((rd_T192 x3_1 x4_1).f2)) := hcc10 2 _ rfl;have hx10_3 : w11.cell? ⟨go10,(x4_1 : Int).toNat * 5 + 3,none⟩ = some (.int .i64 ((rd_T192 x3_1 x4_1).f3)) := hcc10 3 _ rfl;have hx10_4 : w11.cell? ⟨go10,(x4_1 : Int).toNat * 5 + 4,none⟩ = some (.int .i64 ((rd_T192 x3_1 x4_1).f4)) := hcc10 4 _ rfl;have hf10_0 : w11.frozen? ⟨go10,(x4_1 : Int).toNat * 5,none⟩ = false := hfr10 0;have hf10_1 : w11.frozen? ⟨go10,(x4_1 : Int).toNat * 5 + 1,none⟩ = false := hfr10 1;have hf10_2 : w11.frozen? ⟨go10,(x4_1 : Int).toNat * 5 + 2,none⟩ = false := hfr10 2;have hf10_3 : w11.frozen? ⟨go10,(x4_1 : Int).toNat * 5 + 3,none⟩ = false := hfr10 3;have hf10_4 : w11.frozen? ⟨go10,(x4_1 : Int).toNat * 5 + 4,none⟩ = false := hfr10 4;(try clear hcl10);(try clear hcc10);(try clear hfr10);(try clear hM10);replace p10 := eq_true p10;replace q10 := eq_true q10;have HX12 := aM_ (show Kd.R k192 192 w11 w.heap.size (fun _ => True) (.slice (some ⟨go10,0,none⟩) x3_1.length co10) x3_1 from (by (with_reducible repeat (first | apply rA_ | apply rN_ | apply rD_));exact HO_3.out));obtain ⟨ce12,hcl12,hM12,hcc12,hfr12⟩ := Kd.R_elem HX12.out z192 (x4_1 : Int) (pD_) (by have h_ : (x4_1 : Int) < ((x3_1.length : Int) : Int) := pD_;first | exact h_ | (have e_ := (Kd.R_reads' HO_3.out).1;omega) | simpa using h_);obtain rfl := k192_openM hM12;have HP12 := Kd.R_seg HX12.out (x4_1 : Int) (pD_) (by have h_ : (x4_1 : Int) < ((x3_1.length : Int) : Int) := pD_;first | exact h_ | (have e_ := (Kd.R_reads' HO_3.out).1;omega) | simpa using h_) (seg := [.int .i64 t118,.int .i64 t119,.int .i64 t120,.int .i64 t121,.int .i64 t122]) (j := 0) hcl12 hcc12 (show 5 ≤ 5 from by decide) (x' := (⟨t118,t119,t120,t121,t122⟩ : S192)) (k192_mkM _ _ _ (⟨t118,t119,t120,t121,t122⟩ : S192) ) (fun _ hk => hk);have hx12_0 := hcc12 0 _ rfl;(try simp only [show (k192).sz = 5 from rfl,Nat.mul_one,Nat.add_zero] at hx12_0);have hf12_0 := hfr12 0;(try simp only [show (k192).sz = 5 from rfl,Nat.mul_one,Nat.add_zero] at hf12_0);have hx12_1 := hcc12 1 _ rfl;(try simp only [show (k192).sz = 5 from rfl,Nat.mul_one,Nat.add_zero] at hx12_1);have hf12_1 := hfr12 1;(try simp only [show (k192).sz = 5 from rfl,Nat.mul_one,Nat.add_zero] at hf12_1);have hx12_2 := hcc12 2 _ rfl;(try simp only [show (k192).sz = 5 from rfl,Nat.mul_one,Nat.add_zero] at hx12_2);have hf12_2 := hfr12 2;(try simp only [show (k192).sz = 5 from rfl,Nat.mul_one,Nat.add_zero] at hf12_2);have hx12_3 := hcc12 3 _ rfl;(try simp only [show (k192).sz = 5 from rfl,Nat.mul_one,Nat.add_zero] at hx12_3);have hf12_3 := hfr12 3;(try simp only [show (k192).sz = 5 from rfl,Nat.mul_one,Nat.add_zero] at hf12_3);have hx12_4 := hcc12 4 _ rfl;(try simp only [show (k192).sz = 5 from rfl,Nat.mul_one,Nat.add_zero] at hx12_4);have hf12_4 := hfr12 4;(try simp only [show (k192).sz = 5 from rfl,Nat.mul_one,Nat.add_zero] at hf12_4);(try clear hcl12);(try clear hcc12);(try clear hfr12);(try clear hM12)) | ((with_reducible refine gate_store (t := 192) (p := 21) rfl ?_);refine store_event (t := 192) (p := 21) (v := ?vo_w13) (w1 := (((((w11.setCell ⟨go10,(x4_1 : Int).toNat * 5,none⟩ (.int .i64 t118)).setCell ⟨go10,(x4_1 : Int).toNat * 5 + 1,none⟩ (.int .i64 t119)).setCell ⟨go10,(x4_1 : Int).toNat * 5 + 2,none⟩ (.int .i64 t120)).setCell ⟨go10,(x4_1 : Int).toNat * 5 + 3,none⟩ (.int .i64 t121)).setCell ⟨go10,(x4_1 : Int).toNat * 5 + 4,none⟩ (.int .i64 t122))) ?hg ?ho ?hn ?hr ?_;(case ho => rfl);(case hg => rfl);(case hn => rfl);(case hr => first | (go_simp;done) | (go_simp;rfl));intro w13 hw;have hg : w11.grownBy w13 (some go10) := (by rw [hw];exact HP12.2);have hp_ : Kd.R k192 192 w13 w.heap.size (fun _ => True) (.slice (some ⟨go10,0,none⟩) x3_1.length co10) y123 := (by rw [hw,Ny123.out];exact HP12.1);clear HP12;replace HO_3 := aM_ (hp_);replace HB := aM_ ((by rw [hw];exact below_set (below_set (below_set (below_set (below_set (HB.out) GB10.out) GB10.out) GB10.out) GB10.out) GB10.out : Below w.heap.size w w13));clear hg hw hp_))
        go_roundg k1
        case measure => have := HK1.out;omega
        case rel => exact ⟨(y123),(wrap64 (x4_1 + 1)),(by first | rfl | (simp;done) | (simp [*];done)),H',⟨by have := HK1.out;omega⟩,⟨by (with_reducible repeat (first | apply rA_ | apply rN_ | apply rD_));exact HO_3.out⟩,⟨gW_ HB.out⟩⟩
       ·rw [if_neg c9] at H
        exact absurd H (by simp)
      ·rw [if_neg c7] at H
       exact absurd H (by simp)
     ·rw [if_neg c6] at H
      have c6b0 : decide (x4_1 < (l0.length : Int)) = false := decide_eq_false c6
      clear c6
      obtain rfl := sJ_ H
      go_wp2
      go_ret
      exact ⟨_,fR_,by (with_reducible repeat (first | apply rA_ | apply rN_ | apply rD_));exact HO_3.out,gB_ HB.out⟩
  ·rw [if_neg c3] at H
   exact absurd H (by simp)
 ·rw [if_neg c2] at H
  exact absurd H (by simp)
def laws_toInsSS.l0 : Nat → List (List (S208)) → List (List (S192)) → Int → Option ((List (List (S192))))
  | 0,_,_,_ => none
  | k + 1,x0,x3,x4 => if x4 < (x0.length : Int) then (if 0 ≤ x4 then ((laws_toInsS.f k (rd_L2 x0 x4)).bind fun t128 => (if x4 < (x3.length : Int) then (laws_toInsSS.l0 k x0 (x3.set (x4 : Int).toNat t128) (wrap64 (x4 + 1))) else (none))) else (none)) else (some x3)
def laws_toInsSS.f (k : Nat) (l0 : List (List (S208))) : Option ((List (List (S192)))) := if 0 ≤ (l0.length : Int) then (if ((l0.length : Int) : Int).toNat ≤ 11728124029610 then (laws_toInsSS.l0 k l0 (List.replicate ((l0.length : Int) : Int).toNat []) 0) else (none)) else (none)
set_option maxHeartbeats 8000000 in
theorem laws_toInsSS.calls (k : Nat) (A0 : Option Addr) (c0 : Nat) (l0 : List (List (S208))) (r : List (List (S192))) (w : World) (hr0 : Kd.C (Kd.slice 208 k208) w A0 l0.length l0) (hc0 : l0.length ≤ c0) (h : laws_toInsSS.f k l0 = some r) :
  Calls Try.prog 62 #[.slice A0 l0.length c0] w fun e w' => ∃ v0_ : Value,e = .returned (v0_) ∧ Kd.S (Kd.slice 192 k192) 162 w' w.heap.size (fun _ => True) v0_ r ∧ Below w.heap.size w w' := by
 have HR0 := aM_ hr0
 have HC0 := aM_ hc0
 clear hr0 hc0
 have HB := aM_ (Below.refl w.heap.size w)
 have H : (if 0 ≤ (l0.length : Int) then (if ((l0.length : Int) : Int).toNat ≤ 11728124029610 then (laws_toInsSS.l0 k l0 (List.replicate ((l0.length : Int) : Int).toNat []) 0) else (none)) else (none)) = some r := h
 clear h
 by_cases c2 : 0 ≤ (l0.length : Int)
 ·rw [if_pos c2] at H
  have c2b0 := eq_true c2
  have c2b1 : decide (0 ≤ (l0.length : Int)) = true := decide_eq_true c2
  clear c2
  by_cases c3 : ((l0.length : Int) : Int).toNat ≤ 11728124029610
  ·rw [if_pos c3] at H
   have c3b0 := eq_true c3
   have c3b1 : decide (((l0.length : Int) : Int).toNat ≤ 11728124029610) = true := decide_eq_true c3
   clear c3
   obtain ⟨y124,hy124⟩ : ∃ y_ : List (List (S192)),y_ = (List.replicate ((l0.length : Int) : Int).toNat []) := ⟨_,rfl⟩
   replace H : (laws_toInsSS.l0 k l0 y124 0) = some r := by first | (rw [hy124];with_reducible exact H) | (have H2_ := (Option.bind_some _ _).symm.trans H;rw [hy124];with_reducible exact H2_) | (have H2_ := (Option.bind_some _ _).symm.trans H;with_reducible exact H2_) | with_reducible exact H | (rw [hy124];exact H) | exact H
   have Ny124 := aM_ hy124
   clear hy124
   have H' := aM_ H
   clear H
   go_enter Try.func62,Try.ntmps62
   go_wp2_with (first | ((with_reducible refine gate_dst (N := 7) rfl ?_);refine Kd.S_make (Kd.slice 192 k192) _ 162 rfl (N := 7) rfl 42 _ _ rfl (l0.length : Int) rfl rfl Try.underlying42 (.slice none 0 0) 24 info162 rfl (by decide) (by omega) [] (ok := fun _ => True) (okp := fun _ => True) ⟨_,rfl,Kd.R_nil _ _ _ _ _⟩ (fun _ hk => hk) trivial (pD_) (Nat.le_trans (Nat.mul_le_mul_right _ (pD_ : (l0.length : Int).toNat ≤ 11728124029610)) (by omega)) (Below.refl _ _) (Nat.le_refl _) ?_;intro v125 w4 ho5 hb hg_ hnew_;clear hg_ hnew_;(first | rw [← Ny124.out] at ho5 | (simp only [Int.reduceToNat] at ho5;rw [← Ny124.out] at ho5));have HO126 := aM_ (Kd.S_lower ho5 (below_size (gB_ HB.out)));replace HB := aM_ (sT_ HB.out hb);clear hb ho5))
   go_loopg [4] k (fun kq v4 w' => ∃ (x3_1 : List (List (S192))) (x4_1 : Int),v4 = .int .i64 x4_1 ∧ Aside0 (laws_toInsSS.l0 kq l0 x3_1 x4_1 = some r) ∧ Aside0 (kq ≤ k) ∧ Aside0 (Kd.S (Kd.slice 192 k192) 162 w' w.heap.size (fun _ => True) v125 x3_1) ∧ Aside0 (Below w.heap.size w w'))
   case atStart => exact ⟨(y124),(0),(by first | rfl | (simp;done) | (simp [*];done)),H',⟨Nat.le_refl _⟩,⟨by (with_reducible repeat (first | apply Kd.S_alloc | apply Kd.S_drewN | apply Kd.S_drew));exact HO126.out⟩,⟨gW_ HB.out⟩⟩
   case round =>
    clear H'
    (try clear c2);(try clear c2b0);(try clear c2b1);(try clear p2);(try clear c3);(try clear c3b0);(try clear c3b1)
    obtain ⟨x3_1,x4_1,rfl,HA,HK1,HO_3,HB⟩ := hrel
    cases gk with
    | zero => exact absurd HA.out (by simp [laws_toInsSS.l0])
    | succ k1 =>
     have H := HA.out
     clear HA
     simp only [laws_toInsSS.l0] at H
     by_cases c6 : x4_1 < (l0.length : Int)
     ·rw [if_pos c6] at H
      have c6b0 : decide (x4_1 < (l0.length : Int)) = true := decide_eq_true c6
      clear c6
      by_cases c7 : 0 ≤ x4_1
      ·rw [if_pos c7] at H
       have c7b0 : decide (0 ≤ x4_1) = true := decide_eq_true c7
       clear c7
       replace H := Option.bind_eq_some_iff.mp H
       obtain ⟨t128,A80,H⟩ := H
       replace H : (if x4_1 < (x3_1.length : Int) then (laws_toInsSS.l0 k1 l0 (x3_1.set (x4_1 : Int).toNat t128) (wrap64 (x4_1 + 1))) else (none)) = some r := H
       have A8 := aM_ A80
       clear A80
       by_cases c9 : x4_1 < (x3_1.length : Int)
       ·rw [if_pos c9] at H
        have c9b0 : decide (x4_1 < (x3_1.length : Int)) = true := decide_eq_true c9
        clear c9
        obtain ⟨y131,hy131⟩ : ∃ y_ : List (List (S192)),y_ = (x3_1.set (x4_1 : Int).toNat t128) := ⟨_,rfl⟩
        replace H : (laws_toInsSS.l0 k1 l0 y131 (wrap64 (x4_1 + 1))) = some r := by first | (rw [hy131];with_reducible exact H) | (have H2_ := (Option.bind_some _ _).symm.trans H;rw [hy131];with_reducible exact H2_) | (have H2_ := (Option.bind_some _ _).symm.trans H;with_reducible exact H2_) | with_reducible exact H | (rw [hy131];exact H) | exact H
        have Ny131 := aM_ hy131
        clear hy131
        have H' := aM_ H
        clear H
        have p127 : 0 ≤ (x4_1 : Int) := pD_
        have q127 : x4_1 < (l0.length : Int) := pD_
        obtain ⟨ad127,A127_0,c127_0,e127,hx127_0,hl127_0,hi127_0⟩ := at_L2 HR0.out x4_1 p127 q127
        cases e127
        replace hx127_0 := cB_ HB.out hx127_0
        have HR127_0 := aM_ hi127_0
        have HC127_0 := aM_ hl127_0
        clear hi127_0 hl127_0
        replace p127 := eq_true p127
        replace q127 := eq_true q127
        go_wp2_with (first | (refine gL_ (some 20) Try.func125 #[.slice A127_0 (rd_L2 l0 x4_1).length c127_0] ?_;(with_reducible refine (laws_toInsS.calls k1 _ _ (rd_L2 l0 x4_1) t128 _ ?side1 HC127_0.out A8.out).mono ?_);(case side1 => exact cS_ (Kd.C_below HR127_0.out HB.out));rintro e w11 ⟨v129,rfl,ho0,hb⟩;refine ⟨_,rfl,?_⟩;have HO130 := aM_ (Kd.R_lower ho0 (below_size (gB_ HB.out)));replace HO_3 := aM_ (Kd.S_elder' (by (with_reducible repeat (first | apply Kd.S_alloc | apply Kd.S_drewN | apply Kd.S_drew));exact HO_3.out) (Kd.R_base ho0) hb);replace HB := aM_ (sT_ HB.out hb);(try clear ho0);have p10 : 0 ≤ (x4_1 : Int) := pD_;have q10 : (x4_1 : Int) < ((x3_1.length : Int) : Int) := pD_;obtain ⟨go10,co10,eo10,gb10,gl10,cl10,HG10⟩ := Kd.S_form HO_3.out (by omega);(first | cases eo10 | (injection eo10 with ea_ en_ ec_;(first | subst ea_ | (injection ea_ with ea_;subst ea_));subst ec_;clear en_));have GB10 := aM_ gb10;have GG10 := aM_ HG10;clear gb10 gl10 HG10;obtain ⟨_,ce10,hcl10,hM10,hcc10,hfr10,_,_⟩ := Kd.S_elem HO_3.out [] (x4_1 : Int) p10 q10;obtain ⟨ve10_0,rfl,ge10_0⟩ := hM10;have hx10_0 := hcc10 0 _ rfl;have hf10_0 := hfr10 0;(try simp only [show ((Kd.slice 192 k192)).sz = 1 from rfl,Nat.mul_one,Nat.add_zero] at hx10_0);(try simp only [show ((Kd.slice 192 k192)).sz = 1 from rfl,Nat.mul_one,Nat.add_zero] at hf10_0);(try clear hcl10);(try clear hcc10);(try clear hfr10);(try clear hM10);replace p10 := eq_true p10;replace q10 := eq_true q10;have n_ := aM_ (Kd.S_mono (ok' := (fun k_ => some k_ ≠ (v129 : Value).ownBlock)) HO_3.out (fun k_ hk => hk.2));clear HO_3;have HO_3 := n_;clear n_;have HX12 := aM_ (show Kd.S (Kd.slice 192 k192) 162 w11 w.heap.size (fun k_ => ((fun _ => True)) k_ ∧ ¬ ((fun k_ => some k_ = (v129 : Value).ownBlock)) k_) (.slice (some ⟨go10,0,none⟩) x3_1.length co10) x3_1 from (by (with_reducible repeat (first | apply Kd.S_alloc | apply Kd.S_drewN | apply Kd.S_drew));exact Kd.S_mono HO_3.out (fun k_ hk => ⟨trivial,fun e_ => hk e_⟩)));obtain ⟨oki12,ce12,hcl12,hM12,hcc12,hfr12,hoki12,hH12⟩ := Kd.S_elem HX12.out [] (x4_1 : Int) (pD_) (by have h_ : (x4_1 : Int) < ((x3_1.length : Int) : Int) := pD_;first | exact h_ | (have e_ := (Kd.S_reads' HO_3.out).1;omega) | simpa using h_);obtain ⟨ve12_0,rfl,ge12_0⟩ := hM12;have HP12 := Kd.S_seg hH12 (pD_) (by have h_ : (x4_1 : Int) < ((x3_1.length : Int) : Int) := pD_;first | exact h_ | (have e_ := (Kd.S_reads' HO_3.out).1;omega) | simpa using h_) (seg := [v129]) (j := 0) (show 1 ≤ 1 from by decide) (x' := t128) (Kd.M_row (Kd.R_mono (Kd.R_tight rfl (Kd.R_mono (ok' := fun k_ => ((fun _ => True)) k_ ∧ k_ ≠ go10) (Kd.R_apart' (HO130.out) (Kd.S_typed HO_3.out) (by decide)) (fun k_ hk => ⟨trivial,fun e_ => (hk.2) (by rw [e_];rfl)⟩))) (fun _ h_ => Or.inr (h_)))) (fun _ hk => hk) (fun k_ hk_ => ((Kd.R_mono (ok' := fun k_ => ((fun _ => True)) k_ ∧ k_ ≠ go10) (Kd.R_apart' (HO130.out) (Kd.S_typed HO_3.out) (by decide)) (fun k_ hk => ⟨trivial,fun e_ => (hk.2) (by rw [e_];rfl)⟩))).1 k_ hk_.symm);have hx12_0 := hcc12 0 _ rfl;(try simp only [show ((Kd.slice 192 k192)).sz = 1 from rfl,Nat.mul_one,Nat.add_zero] at hx12_0);have hf12_0 := hfr12 0;(try simp only [show ((Kd.slice 192 k192)).sz = 1 from rfl,Nat.mul_one,Nat.add_zero] at hf12_0);(try clear hcl12);(try clear hcc12);(try clear hfr12);(try clear hM12);(try clear hoki12);(try clear hH12);(try simp only [show ((Kd.slice 192 k192)).sz = 1 from rfl,Nat.mul_one,Nat.add_zero] at HP12)) | ((with_reducible refine gate_store (t := 162) (p := 21) rfl ?_);refine store_event (t := 162) (p := 21) (v := ?vo_w13) (w1 := (w11.setCell ⟨go10,(x4_1 : Int).toNat,none⟩ (v129))) ?hg ?ho ?hn ?hr ?_;(case ho => rfl);(case hg => rfl);(case hn => rfl);(case hr => first | (go_simp;done) | (go_simp;rfl) | (obtain ⟨_,_,e_⟩ := Kd.R_slice HO130.out;rw [e_];first | (go_simp;done) | (go_simp;rfl)) | (obtain ⟨_,_,e_⟩ := Kd.S_slice HO130.out;rw [e_];first | (go_simp;done) | (go_simp;rfl)) | (obtain ⟨_,_,e_⟩ := Kd.Q_slice HO130.out;rw [e_];first | (go_simp;done) | (go_simp;rfl)) | (obtain ⟨_,_,e_⟩ := Kd.N_slice HO130.out;rw [e_];first | (go_simp;done) | (go_simp;rfl)));intro w13 hw;have hg : w11.grownBy w13 (some go10) := (by rw [hw];exact HP12.2);have hp_ : Kd.S (Kd.slice 192 k192) 162 w13 w.heap.size (fun _ => True) (.slice (some ⟨go10,0,none⟩) x3_1.length co10) y131 := (by rw [hw,Ny131.out];exact HP12.1);clear HP12;replace HO_3 := aM_ (hp_);replace HB := aM_ ((by rw [hw];exact below_set (HB.out) GB10.out : Below w.heap.size w w13));clear HO130;clear hg hw hp_))
        go_roundg k1
        case measure => have := HK1.out;omega
        case rel => exact ⟨(y131),(wrap64 (x4_1 + 1)),(by first | rfl | (simp;done) | (simp [*];done)),H',⟨by have := HK1.out;omega⟩,⟨by (with_reducible repeat (first | apply Kd.S_alloc | apply Kd.S_drewN | apply Kd.S_drew));exact HO_3.out⟩,⟨gW_ HB.out⟩⟩
       ·rw [if_neg c9] at H
        exact absurd H (by simp)
      ·rw [if_neg c7] at H
       exact absurd H (by simp)
     ·rw [if_neg c6] at H
      have c6b0 : decide (x4_1 < (l0.length : Int)) = false := decide_eq_false c6
      clear c6
      obtain rfl := sJ_ H
      go_wp2
      go_ret
      exact ⟨_,fR_,by (with_reducible repeat (first | apply Kd.S_alloc | apply Kd.S_drewN | apply Kd.S_drew));exact HO_3.out,gB_ HB.out⟩
  ·rw [if_neg c3] at H
   exact absurd H (by simp)
 ·rw [if_neg c2] at H
  exact absurd H (by simp)
def laws_toProg.f (k : Nat) (l0_0 : List Int) (l0_1 : List (List (S208))) : Option (List Int × (List (List (S192)))) := (laws_toIntS.f k l0_0).bind fun t135 => ((laws_toInsSS.f k l0_1).bind fun t138 => (some (t135,t138)))
set_option maxHeartbeats 8000000 in
theorem laws_toProg.calls (k : Nat) (A0_0 : Option Addr) (c0_0 : Nat) (l0_0 : List Int) (A0_1 : Option Addr) (c0_1 : Nat) (l0_1 : List (List (S208))) (r1 : List Int) (r2 : List (List (S192))) (w : World) (hr0_0 : Kd.C (Kd.int .i64) w A0_0 l0_0.length l0_0) (hc0_0 : l0_0.length ≤ c0_0) (hr0_1 : Kd.C (Kd.slice 208 k208) w A0_1 l0_1.length l0_1) (hc0_1 : l0_1.length ≤ c0_1) (h : laws_toProg.f k l0_0 l0_1 = some (r1,r2)) :
  Calls Try.prog 17 #[.agg #[.slice A0_0 l0_0.length c0_0,.slice A0_1 l0_1.length c0_1]] w fun e w' => ∃ v0_ v1_ : Value,e = .returned (.agg #[v0_,v1_]) ∧ Kd.R (Kd.int .i64) 3 w' w.heap.size (fun _ => True) v0_ r1 ∧ Kd.S (Kd.slice 192 k192) 162 w' w.heap.size (fun _ => True) v1_ r2 ∧ Below w.heap.size w w' := by
 have hu38 := Try.underlying38
 have hu44 := Try.underlying44
 have HR0_0 := aM_ hr0_0
 have HC0_0 := aM_ hc0_0
 clear hr0_0 hc0_0
 have HR0_1 := aM_ hr0_1
 have HC0_1 := aM_ hc0_1
 clear hr0_1 hc0_1
 have HB := aM_ (Below.refl w.heap.size w)
 have H : ((laws_toIntS.f k l0_0).bind fun t135 => ((laws_toInsSS.f k l0_1).bind fun t138 => (some (t135,t138)))) = some (r1,r2) := h
 clear h
 replace H := Option.bind_eq_some_iff.mp H
 obtain ⟨t135,A20,H⟩ := H
 replace H : ((laws_toInsSS.f k l0_1).bind fun t138 => (some (t135,t138))) = some (r1,r2) := H
 have A2 := aM_ A20
 clear A20
 replace H := Option.bind_eq_some_iff.mp H
 obtain ⟨t138,A30,H⟩ := H
 replace H : (some (t135,t138)) = some (r1,r2) := H
 have A3 := aM_ A30
 clear A30
 simp only [Option.some.injEq,Prod.mk.injEq] at H
 obtain ⟨rfl,rfl⟩ := H
 go_enter Try.func17,Try.ntmps17
 go_wp2_with (first | (refine bX_ 1 (cs := #[.slice A0_0 l0_0.length c0_0,.slice A0_1 l0_1.length c0_1]) (t := 38) ?_;intro gb132 hg w4 hbox hb;have BK132 := aM_ (hbox);have GE132 := aM_ (sZ_ hg HB.out);replace HB := aM_ (sT_ HB.out hb);clear hb hbox hg) | (refine bX_ 2 (cs := #[.slice none 0 0,.slice none 0 0]) (t := 44) ?_;intro gb133 hg w5 hbox hb;have BK133 := aM_ (hbox);have GE133 := aM_ (sZ_ hg HB.out);have NB132_133 := aM_ (nL_ hg BK132.out);have NB133_132 := aM_ (nG_ hg BK132.out);replace BK132 := aM_ (nB_ BK132.out hb);replace HB := aM_ (sT_ HB.out hb);clear hb hbox hg) | (refine bX_ 3 (cs := #[.slice none 0 0,.slice none 0 0]) (t := 44) ?_;intro gb134 hg w6 hbox hb;have BK134 := aM_ (hbox);have GE134 := aM_ (sZ_ hg HB.out);have NB132_134 := aM_ (nL_ hg BK132.out);have NB134_132 := aM_ (nG_ hg BK132.out);have NB133_134 := aM_ (nL_ hg BK133.out);have NB134_133 := aM_ (nG_ hg BK133.out);replace BK132 := aM_ (nB_ BK132.out hb);replace BK133 := aM_ (nB_ BK133.out hb);replace HB := aM_ (sT_ HB.out hb);clear hb hbox hg;have hnb7 := nn_ NB132_133 NB133_132;have hnb8 := nn_ NB132_134 NB134_132;have z_9 := bR2_ BK132.out) | (refine gL_ (some 6) Try.func61 #[.slice A0_0 l0_0.length c0_0] ?_;(with_reducible refine (laws_toIntS.calls k _ _ l0_0 t135 _ ?side1 HC0_0.out A2.out).mono ?_);(case side1 => exact cS_ (Kd.C_below HR0_0.out HB.out));rintro e w10 ⟨v136,rfl,ho0,hb⟩;refine ⟨_,rfl,?_⟩;have HO137 := aM_ (Kd.R_lower ho0 (below_size (gB_ HB.out)));replace BK132 := aM_ (nB_ BK132.out hb);replace BK133 := aM_ (nB_ BK133.out hb);replace BK134 := aM_ (nB_ BK134.out hb);replace HB := aM_ (sT_ HB.out hb);(try clear ho0);obtain ⟨Ao11,co11,eo11⟩ := Kd.R_slice HO137.out;subst eo11;have hnb12 := nn_ NB134_133 NB133_134;have z_13 := bR2_ BK134.out;have z_14 := bR2_ BK132.out) | (refine gL_ (some 10) Try.func62 #[.slice A0_1 l0_1.length c0_1] ?_;(with_reducible refine (laws_toInsSS.calls k _ _ l0_1 t138 _ ?side1 HC0_1.out A3.out).mono ?_);(case side1 => exact Kd.C_below HR0_1.out (gB_ HB.out));rintro e w15 ⟨v139,rfl,ho0,hb⟩;refine ⟨_,rfl,?_⟩;have HO140 := aM_ (Kd.S_lower ho0 (below_size (gB_ HB.out)));replace HO137 := aM_ (Kd.R_below (by (with_reducible repeat (first | apply rA_ | apply rN_ | apply rD_));exact (Kd.R_mono (Kd.R_far (p := ⟨gb134,0,none⟩) (Kd.R_types HO137.out BK134.out (by decide)) (fun _ hk => hk.2) (.slice Ao11 t135.length co11)) (fun _ h_ => h_.1))) hb);replace BK132 := aM_ (nBf_ BK132.out hb);replace BK133 := aM_ (nBf_ BK133.out hb);replace BK134 := aM_ (blk_below (g := gb134) (o := .cells #[.slice Ao11 t135.length co11,.slice none 0 0] 44 (0,0)) (by (with_reducible repeat (first | refine bN_ ?_ _ | refine bD_ ?_ | refine bA_ ?_ _));refine blk_put (cs := #[.slice none 0 0,.slice none 0 0]) ?_ 0 _ rfl;exact rW_ BK134.out) hb);replace HB := aM_ (sT_ HB.out hb);(try clear ho0);obtain ⟨Ao16,co16,eo16⟩ := Kd.S_slice HO140.out;subst eo16;have z_17 := bR2_ BK134.out;have z_18 := bR2_ BK133.out))
 refine bodyPost_ret (results_cell_row rfl _ _ gb133 44 #[.slice Ao11 t135.length co11,.slice Ao16 t138.length co16] (0,0) _ rfl (by (with_reducible repeat (first | refine bN_ ?_ _ | refine bD_ ?_ | refine bA_ ?_ _));refine blk_put (cs := #[.slice Ao11 t135.length co11,.slice none 0 0]) ?_ 1 _ rfl;refine blk_put (cs := #[.slice none 0 0,.slice none 0 0]) ?_ 0 _ rfl;exact rWf_ BK133.out) Try.underlying44 rfl (by kernel_rfl)) rfl ?_
 exact ⟨_,_,fR_,by (with_reducible repeat (first | apply rA_ | apply rN_ | apply rD_));exact Kd.R_mono (Kd.R_far (p := ⟨gb133,1,none⟩) (Kd.R_far (p := ⟨gb133,0,none⟩) (Kd.R_far (p := ⟨gb134,1,none⟩) (Kd.R_types (Kd.R_types HO137.out BK134.out (by decide)) BK133.out (by decide)) (fun _ hk => hk.1.2) (.slice Ao16 t138.length co16)) (fun _ hk => hk.2) (.slice Ao11 t135.length co11)) (fun _ hk => hk.2) (.slice Ao16 t138.length co16)) (fun _ hk => trivial),by (with_reducible repeat (first | apply Kd.S_alloc | apply Kd.S_drewN | apply Kd.S_drew));exact Kd.S_mono (Kd.S_far (p := ⟨gb133,1,none⟩) (Kd.S_far (p := ⟨gb133,0,none⟩) (Kd.S_far (p := ⟨gb134,1,none⟩) (Kd.S_types (Kd.S_types HO140.out BK134.out (by decide)) BK133.out (by decide)) (fun _ hk => hk.1.2) (.slice Ao16 t138.length co16)) (fun _ hk => hk.2) (.slice Ao11 t135.length co11)) (fun _ hk => hk.2) (.slice Ao16 t138.length co16)) (fun _ hk => trivial),gB_ HB.out⟩
def laws_eqIntS.l0 : Nat → List Int → List Int → Int → Option (Bool)
  | 0,_,_,_ => none
  | k + 1,x0,x1,x5 => if x5 < (x0.length : Int) then (if 0 ≤ x5 then (if x5 < (x1.length : Int) then (if (rd x0 x5) = (rd x1 x5) then (laws_eqIntS.l0 k x0 x1 (wrap64 (x5 + 1))) else (some false)) else (none)) else (none)) else (some true)
def laws_eqIntS.f (k : Nat) (l0 : List Int) (l1 : List Int) : Option (Bool) := if (l0.length : Int) = (l1.length : Int) then (laws_eqIntS.l0 k l0 l1 0) else (some false)
set_option maxHeartbeats 8000000 in
theorem laws_eqIntS.calls (k : Nat) (A0 : Option Addr) (c0 : Nat) (l0 : List Int) (A1 : Option Addr) (c1 : Nat) (l1 : List Int) (r : Bool) (w : World) (hr0 : Kd.C (Kd.int .i64) w A0 l0.length l0) (hc0 : l0.length ≤ c0) (hr1 : Kd.C (Kd.int .i64) w A1 l1.length l1) (hc1 : l1.length ≤ c1) (h : laws_eqIntS.f k l0 l1 = some r) :
  Calls Try.prog 39 #[.slice A0 l0.length c0,.slice A1 l1.length c1] w fun e w' => e = .returned (.bool r) ∧ Drawn0 w w' := by
 have HR0 := aM_ hr0
 have HC0 := aM_ hc0
 clear hr0 hc0
 have HR1 := aM_ hr1
 have HC1 := aM_ hc1
 clear hr1 hc1
 have H : (if (l0.length : Int) = (l1.length : Int) then (laws_eqIntS.l0 k l0 l1 0) else (some false)) = some r := h
 clear h
 by_cases c3 : (l0.length : Int) = (l1.length : Int)
 ·rw [if_pos c3] at H
  have c3b0 : ((l0.length : Int) == (l1.length : Int)) = true := beq_iff_eq.mpr c3
  have c3b1 : ((l0.length : Int) != (l1.length : Int)) = false := bne_eq_false_iff_eq.mpr c3
  have c3b2 : (l0.length == l1.length) = true := by first | simpa using c3 | (simp at c3 ⊢;omega)
  clear c3
  have H' := aM_ H
  clear H
  go_enter Try.func39,Try.ntmps39
  go_wp2
  repeat (go_quiet (fail);try go_wp2)
  go_loopg [5] k (fun kq v5 w' => ∃ (x5_1 : Int),v5 = .int .i64 x5_1 ∧ Aside0 (laws_eqIntS.l0 kq l0 l1 x5_1 = some r) ∧ Aside0 (kq ≤ k) ∧ Drawn0 w w')
  case atStart => exact ⟨(0),(by first | rfl | (simp;done) | (simp [*];done)),H',⟨Nat.le_refl _⟩,by repeat (first | exact Drawn0.refl _ | apply Drawn0.step)⟩
  case round =>
   clear H'
   (try clear c1);(try clear p2);(try clear c3);(try clear c3b0);(try clear c3b1);(try clear c3b2)
   obtain ⟨x5_1,rfl,HA,HK1,⟨m1,rfl⟩⟩ := hrel
   cases gk with
   | zero => exact absurd HA.out (by simp [laws_eqIntS.l0])
   | succ k1 =>
    have H := HA.out
    clear HA
    simp only [laws_eqIntS.l0] at H
    by_cases c4 : x5_1 < (l0.length : Int)
    ·rw [if_pos c4] at H
     have c4b0 : decide (x5_1 < (l0.length : Int)) = true := decide_eq_true c4
     clear c4
     by_cases c5 : 0 ≤ x5_1
     ·rw [if_pos c5] at H
      have c5b0 : decide (0 ≤ x5_1) = true := decide_eq_true c5
      clear c5
      by_cases c6 : x5_1 < (l1.length : Int)
      ·rw [if_pos c6] at H
       have c6b0 : decide (x5_1 < (l1.length : Int)) = true := decide_eq_true c6
       clear c6
       by_cases c7 : (rd l0 x5_1) = (rd l1 x5_1)
       ·rw [if_pos c7] at H
        have c7b0 : ((rd l0 x5_1) == (rd l1 x5_1)) = true := beq_iff_eq.mpr c7
        have c7b1 : ((rd l0 x5_1) != (rd l1 x5_1)) = false := bne_eq_false_iff_eq.mpr c7
        clear c7
        have H' := aM_ H
        clear H
        have p141 : 0 ≤ (x5_1 : Int) := pD_
        have q141 : x5_1 < (l0.length : Int) := pD_
        obtain ⟨ad141,e141,hx141_0⟩ := Kd.at_int HR0.out x5_1 p141 q141
        cases e141
        replace p141 := eq_true p141
        replace q141 := eq_true q141
        have p142 : 0 ≤ (x5_1 : Int) := pD_
        have q142 : x5_1 < (l1.length : Int) := pD_
        obtain ⟨ad142,e142,hx142_0⟩ := Kd.at_int HR1.out x5_1 p142 q142
        cases e142
        replace p142 := eq_true p142
        replace q142 := eq_true q142
        go_wp2
        repeat (go_quiet (fail);try go_wp2)
        go_roundg k1
        case measure => have := HK1.out;omega
        case rel => exact ⟨(wrap64 (x5_1 + 1)),(by first | rfl | (simp;done) | (simp [*];done)),H',⟨by have := HK1.out;omega⟩,by repeat (first | exact Drawn0.refl _ | apply Drawn0.step)⟩
       ·rw [if_neg c7] at H
        have c7b0 : ((rd l0 x5_1) == (rd l1 x5_1)) = false := beq_eq_false_iff_ne.mpr c7
        have c7b1 : ((rd l0 x5_1) != (rd l1 x5_1)) = true := bne_iff_ne.mpr c7
        obtain rfl := sJ_ H
        have p141 : 0 ≤ (x5_1 : Int) := pD_
        have q141 : x5_1 < (l0.length : Int) := pD_
        obtain ⟨ad141,e141,hx141_0⟩ := Kd.at_int HR0.out x5_1 p141 q141
        cases e141
        replace p141 := eq_true p141
        replace q141 := eq_true q141
        have p142 : 0 ≤ (x5_1 : Int) := pD_
        have q142 : x5_1 < (l1.length : Int) := pD_
        obtain ⟨ad142,e142,hx142_0⟩ := Kd.at_int HR1.out x5_1 p142 q142
        cases e142
        replace p142 := eq_true p142
        replace q142 := eq_true q142
        go_wp2
        repeat (go_quiet (fail);try go_wp2)
        go_ret
        exact ⟨by first | rfl | (simp;done) | (simp [*];done),by repeat (first | exact Drawn0.refl _ | apply Drawn0.step)⟩
      ·rw [if_neg c6] at H
       exact absurd H (by simp)
     ·rw [if_neg c5] at H
      exact absurd H (by simp)
    ·rw [if_neg c4] at H
     have c4b0 : decide (x5_1 < (l0.length : Int)) = false := decide_eq_false c4
     clear c4
     obtain rfl := sJ_ H
     go_wp2
     repeat (go_quiet (fail);try go_wp2)
     go_ret
     exact ⟨by first | rfl | (simp;done) | (simp [*];done),by repeat (first | exact Drawn0.refl _ | apply Drawn0.step)⟩
 ·rw [if_neg c3] at H
  have c3b0 : ((l0.length : Int) == (l1.length : Int)) = false := beq_eq_false_iff_ne.mpr c3
  have c3b1 : ((l0.length : Int) != (l1.length : Int)) = true := bne_iff_ne.mpr c3
  have c3b2 : (l0.length == l1.length) = false := by first | simpa using c3 | (simp at c3 ⊢;omega)
  obtain rfl := sJ_ H
  go_enter Try.func39,Try.ntmps39
  go_wp2
  repeat (go_quiet (fail);try go_wp2)
  go_ret
  exact ⟨by first | rfl | (simp;done) | (simp [*];done),by repeat (first | exact Drawn0.refl _ | apply Drawn0.step)⟩
end Go.Proofs.Ytobachfngmpeiaa.PFnExactAble
