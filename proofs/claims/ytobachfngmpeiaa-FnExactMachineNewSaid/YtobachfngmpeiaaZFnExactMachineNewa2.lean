/- A part of the proof that the law FnExactMachineNew holds for every input. -/
import Derived.Test.YtobachfngmpeiaaProg
import Derived.Below
import Derived.Deep.Draws
import Derived.Deep.AppendLies
import Derived.Maps.AppendAt
import Derived.OwnWalk
import Derived.Laws.BytesArg
import Derived.Laws.MakeOwn
import Derived.Laws.OwnMore
import Derived.Deep.OwnRows
import Derived.Tactics
import Derived.Lib.ConvBytes
import Derived.Laws.Slices
import Derived.WalkKit
import Derived.KernelRfl
import Derived.RowKit3
import Derived.Deep.LoopGhost
import Derived.Deep.QuietTactic
import Derived.BigQuiet
import Derived.WideLaws
import Derived.Deep.DeepCutAuto
import Derived.Deep.CutBlock
import Derived.Deep.RegionHeld3
import Derived.Laws.Rows
import Derived.Lib.AppendStr
import Derived.ArgAppend
import Derived.Laws.IdiomCopy
import Derived.OrdersHeld
import Derived.Laws.BitsLemmas
import Derived.RowKit
import Derived.Test.YtobachfngmpeiaaZFnExactMachineNewa1
namespace Go.Proofs.Ytobachfngmpeiaa.PFnExactMachineNew
open Go.RowKit Go.Proofs.YtobachfngmpeiaaW.PrintWords Go.Proofs.YtobachfngmpeiaaW.PrintLast Go.Proofs.YtobachfngmpeiaaW.PrintMore
attribute [local go_sem] max2_int min2_int max_two min_two max_three min_three max_four min_four   -- for this text's walks alone
set_option linter.unusedVariables false
set_option linter.unusedSimpArgs false
def errW : Option Int → Value
  | none => .nilIface
  | some c => .iface 0 (.int .i64 c)
theorem errW_none : errW none = .nilIface := rfl
theorem errW_some (c : Int) : errW (some c) = .iface 0 (.int .i64 c) := rfl
theorem info3 : (Try.prog.info? 3).map (fun i => (i.zero, i.size, i.bytes)) = some (some (.int .i64 0), 1, 8) := by kernel_rfl
theorem info123 : (Try.prog.info? 123).map (fun i => (i.zero, i.size, i.bytes)) = some (some (.agg #[(.int .i64 0), (.slice none 0 0), (.slice none 0 0), (.int .i64 0)]), 4, 64) := by kernel_rfl
theorem info125 : (Try.prog.info? 125).map (fun i => (i.zero, i.size, i.bytes)) = some (some (.slice none 0 0), 1, 24) := by kernel_rfl
theorem info171 : (Try.prog.info? 171).map (fun i => (i.zero, i.size, i.bytes)) = some (some (.slice none 0 0), 1, 24) := by kernel_rfl
theorem info175 : (Try.prog.info? 175).map (fun i => (i.zero, i.size, i.bytes)) = some (some (.agg #[(.int .i64 0), (.int .i64 0), (.int .i64 0), (.int .i64 0), (.int .i64 0)]), 5, 40) := by kernel_rfl
structure S177 where
  f0 : Int
  f1 : Int
  f2 : Int
  f3 : Int
  f4 : Int
def z177 : S177 := ⟨(0 : Int), (0 : Int), (0 : Int), (0 : Int), (0 : Int)⟩
def k177 : Kd S177 := Kd.iso (Kd.pair (Kd.int .i64) (Kd.pair (Kd.int .i64) (Kd.pair (Kd.int .i64) (Kd.pair (Kd.int .i64) (Kd.int .i64))))) (fun x : S177 => (x.f0, x.f1, x.f2, x.f3, x.f4))
theorem k177_open {w : World} {x : S177} {cs : List Value} (h : k177.K w x cs) : cs = [.int .i64 x.f0, .int .i64 x.f1, .int .i64 x.f2, .int .i64 x.f3, .int .i64 x.f4] := by
 obtain ⟨_, _, rfl, rfl, ⟨_, _, rfl, rfl, ⟨_, _, rfl, rfl, ⟨_, _, rfl, rfl, rfl⟩⟩⟩⟩ := h
 exact rfl
def rd_T177 (xs : List S177) (i : Int) : S177 := xs.getD i.toNat z177
theorem at_T177 {w : World} {A : Option Addr} {n : Nat} {xs : List S177} (h : Kd.C k177 w A n xs) (i : Int) (h0 : 0 ≤ i) (h1 : i < n) : ∃ ad , A = some ad ∧ w.cell? (ad.add (i.toNat * 5)) = some (.int .i64 (rd_T177 xs i).f0) ∧ w.cell? ⟨(ad.add (i.toNat * 5)).block, (ad.add (i.toNat * 5)).off + 1, none⟩ = some (.int .i64 (rd_T177 xs i).f1) ∧ w.cell? ⟨(ad.add (i.toNat * 5)).block, (ad.add (i.toNat * 5)).off + 2, none⟩ = some (.int .i64 (rd_T177 xs i).f2) ∧ w.cell? ⟨(ad.add (i.toNat * 5)).block, (ad.add (i.toNat * 5)).off + 3, none⟩ = some (.int .i64 (rd_T177 xs i).f3) ∧ w.cell? ⟨(ad.add (i.toNat * 5)).block, (ad.add (i.toNat * 5)).off + 4, none⟩ = some (.int .i64 (rd_T177 xs i).f4) := by
 obtain ⟨ad, c, e, _, hK, hc0⟩ := Kd.C_get h z177 i h0 h1
 have hc : ∀ j u, c[j]? = some u → w.cell? (ad.add (i.toNat * 5 + j)) = some u := hc0
 obtain rfl := k177_open hK
 exact ⟨ad, e, hc 0 _ rfl, by rw [← add_field _ _ 1 (by omega)]; exact hc 1 _ rfl, by rw [← add_field _ _ 2 (by omega)]; exact hc 2 _ rfl, by rw [← add_field _ _ 3 (by omega)]; exact hc 3 _ rfl, by rw [← add_field _ _ 4 (by omega)]; exact hc 4 _ rfl⟩
def rd_L2 (xs : List (List S177)) (i : Int) : (List S177) := xs.getD i.toNat ([] : List S177)
theorem at_L2 {w : World} {A : Option Addr} {n : Nat} {xs : List (List S177)} (h : Kd.C (Kd.slice 177 k177) w A n xs) (i : Int) (h0 : 0 ≤ i) (h1 : i < n) : ∃ ad A0 c0, A = some ad ∧ w.cell? (ad.add i.toNat) = some (.slice A0 (rd_L2 xs i).length c0) ∧ (rd_L2 xs i).length ≤ c0 ∧ k177.C w A0 (rd_L2 xs i).length (rd_L2 xs i) := by
 obtain ⟨ad, c, e, _, hK, hc0⟩ := Kd.C_get h ([] : List S177) i h0 h1
 have hc : ∀ j u, c[j]? = some u → w.cell? (ad.add (i.toNat * 1 + j)) = some u := hc0
 obtain ⟨A0, c0, rfl, l0, g0⟩ := hK
 exact ⟨ad, A0, c0, e, by have hq := hc 0 _ rfl; rwa [Nat.mul_one, Nat.add_zero] at hq, l0, g0⟩
structure S175 where
  f0 : Int
  f1 : Int
  f2 : Int
  f3 : Int
  f4 : Int
def z175 : S175 := ⟨(0 : Int), (0 : Int), (0 : Int), (0 : Int), (0 : Int)⟩
def k175 : Kd S175 := Kd.iso (Kd.pair (Kd.int .i64) (Kd.pair (Kd.int .i64) (Kd.pair (Kd.int .i64) (Kd.pair (Kd.int .i64) (Kd.int .i64))))) (fun x : S175 => (x.f0, x.f1, x.f2, x.f3, x.f4))
theorem k175_open {w : World} {x : S175} {cs : List Value} (h : k175.K w x cs) : cs = [.int .i64 x.f0, .int .i64 x.f1, .int .i64 x.f2, .int .i64 x.f3, .int .i64 x.f4] := by
 obtain ⟨_, _, rfl, rfl, ⟨_, _, rfl, rfl, ⟨_, _, rfl, rfl, ⟨_, _, rfl, rfl, rfl⟩⟩⟩⟩ := h
 exact rfl
theorem k175_openM {w : World} {base : Nat} {ok : Nat → Prop} {x : S175} {cs : List Value} (h : k175.M w base ok x cs) : cs = [.int .i64 x.f0, .int .i64 x.f1, .int .i64 x.f2, .int .i64 x.f3, .int .i64 x.f4] := by
 obtain ⟨_, _, rfl, rfl, ⟨_, _, rfl, rfl, ⟨_, _, rfl, rfl, ⟨_, _, rfl, rfl, rfl⟩⟩⟩⟩ := h
 exact rfl
theorem k175_mkM (w : World) (base : Nat) (ok : Nat → Prop) (x : S175)  : k175.M w base ok x [.int .i64 x.f0, .int .i64 x.f1, .int .i64 x.f2, .int .i64 x.f3, .int .i64 x.f4] := ⟨[.int .i64 x.f0], [.int .i64 x.f1, .int .i64 x.f2, .int .i64 x.f3, .int .i64 x.f4], rfl, rfl, ⟨[.int .i64 x.f1], [.int .i64 x.f2, .int .i64 x.f3, .int .i64 x.f4], rfl, rfl, ⟨[.int .i64 x.f2], [.int .i64 x.f3, .int .i64 x.f4], rfl, rfl, ⟨[.int .i64 x.f3], [.int .i64 x.f4], rfl, rfl, rfl⟩⟩⟩⟩
def rd_T175 (xs : List S175) (i : Int) : S175 := xs.getD i.toNat z175
theorem at_T175 {w : World} {A : Option Addr} {n : Nat} {xs : List S175} (h : Kd.C k175 w A n xs) (i : Int) (h0 : 0 ≤ i) (h1 : i < n) : ∃ ad , A = some ad ∧ w.cell? (ad.add (i.toNat * 5)) = some (.int .i64 (rd_T175 xs i).f0) ∧ w.cell? ⟨(ad.add (i.toNat * 5)).block, (ad.add (i.toNat * 5)).off + 1, none⟩ = some (.int .i64 (rd_T175 xs i).f1) ∧ w.cell? ⟨(ad.add (i.toNat * 5)).block, (ad.add (i.toNat * 5)).off + 2, none⟩ = some (.int .i64 (rd_T175 xs i).f2) ∧ w.cell? ⟨(ad.add (i.toNat * 5)).block, (ad.add (i.toNat * 5)).off + 3, none⟩ = some (.int .i64 (rd_T175 xs i).f3) ∧ w.cell? ⟨(ad.add (i.toNat * 5)).block, (ad.add (i.toNat * 5)).off + 4, none⟩ = some (.int .i64 (rd_T175 xs i).f4) := by
 obtain ⟨ad, c, e, _, hK, hc0⟩ := Kd.C_get h z175 i h0 h1
 have hc : ∀ j u, c[j]? = some u → w.cell? (ad.add (i.toNat * 5 + j)) = some u := hc0
 obtain rfl := k175_open hK
 exact ⟨ad, e, hc 0 _ rfl, by rw [← add_field _ _ 1 (by omega)]; exact hc 1 _ rfl, by rw [← add_field _ _ 2 (by omega)]; exact hc 2 _ rfl, by rw [← add_field _ _ 3 (by omega)]; exact hc 3 _ rfl, by rw [← add_field _ _ 4 (by omega)]; exact hc 4 _ rfl⟩
def rd_L4 (xs : List (List S175)) (i : Int) : (List S175) := xs.getD i.toNat ([] : List S175)
theorem at_L4 {w : World} {A : Option Addr} {n : Nat} {xs : List (List S175)} (h : Kd.C (Kd.slice 175 k175) w A n xs) (i : Int) (h0 : 0 ≤ i) (h1 : i < n) : ∃ ad A0 c0, A = some ad ∧ w.cell? (ad.add i.toNat) = some (.slice A0 (rd_L4 xs i).length c0) ∧ (rd_L4 xs i).length ≤ c0 ∧ k175.C w A0 (rd_L4 xs i).length (rd_L4 xs i) := by
 obtain ⟨ad, c, e, _, hK, hc0⟩ := Kd.C_get h ([] : List S175) i h0 h1
 have hc : ∀ j u, c[j]? = some u → w.cell? (ad.add (i.toNat * 1 + j)) = some u := hc0
 obtain ⟨A0, c0, rfl, l0, g0⟩ := hK
 exact ⟨ad, A0, c0, e, by have hq := hc 0 _ rfl; rwa [Nat.mul_one, Nat.add_zero] at hq, l0, g0⟩
structure S170 where
  f0 : Int
  f1 : (List Int)
def z170 : S170 := ⟨(0 : Int), ([] : List Int)⟩
def k170 : Kd S170 := Kd.iso (Kd.pair (Kd.int .i64) (Kd.slice 3 (Kd.int .i64))) (fun x : S170 => (x.f0, x.f1))
theorem k170_open {w : World} {x : S170} {cs : List Value} (h : k170.K w x cs) : ∃ A1 c1, cs = [.int .i64 x.f0, .slice A1 x.f1.length c1] ∧ x.f1.length ≤ c1 ∧ (Kd.int .i64).C w A1 x.f1.length x.f1 := by
 obtain ⟨_, _, rfl, rfl, ⟨A1, c1, rfl, l1, g1⟩⟩ := h
 exact ⟨A1, c1, rfl, l1, g1⟩
theorem k170_mk (w : World) (x : S170) {A1 : Option Addr} {c1 : Nat} (l1 : x.f1.length ≤ c1) (g1 : (Kd.int .i64).C w A1 x.f1.length x.f1) : k170.K w x [.int .i64 x.f0, .slice A1 x.f1.length c1] := ⟨[.int .i64 x.f0], [.slice A1 x.f1.length c1], rfl, rfl, ⟨A1, c1, rfl, l1, g1⟩⟩
theorem k170_mkM (w : World) (base : Nat) (ok : Nat → Prop) (x : S170) {v1 : Value} (g1 : (Kd.int .i64).R 3 w base ok v1 x.f1) : k170.M w base ok x [.int .i64 x.f0, v1] := ⟨[.int .i64 x.f0], [v1], rfl, rfl, ⟨v1, rfl, g1⟩⟩
theorem k170_mkF (W : World) (ok : Nat → Prop) (x : S170) {A1 : Option Addr} {c1 : Nat} (l1 : x.f1.length ≤ c1) (g1 : Kd.F (Kd.int .i64) W ok A1 x.f1.length x.f1) : Kd.FK k170 W ok x [.int .i64 x.f0, .slice A1 x.f1.length c1] := fun W2 hW => k170_mk W2 x l1 (g1 W2 hW)
def rd_T170 (xs : List S170) (i : Int) : S170 := xs.getD i.toNat z170
theorem at_T170 {w : World} {A : Option Addr} {n : Nat} {xs : List S170} (h : Kd.C k170 w A n xs) (i : Int) (h0 : 0 ≤ i) (h1 : i < n) : ∃ ad A1 c1, A = some ad ∧ w.cell? (ad.add (i.toNat * 2)) = some (.int .i64 (rd_T170 xs i).f0) ∧ w.cell? ⟨(ad.add (i.toNat * 2)).block, (ad.add (i.toNat * 2)).off + 1, none⟩ = some (.slice A1 (rd_T170 xs i).f1.length c1) ∧ (rd_T170 xs i).f1.length ≤ c1 ∧ (Kd.int .i64).C w A1 (rd_T170 xs i).f1.length (rd_T170 xs i).f1 := by
 obtain ⟨ad, c, e, _, hK, hc0⟩ := Kd.C_get h z170 i h0 h1
 have hc : ∀ j u, c[j]? = some u → w.cell? (ad.add (i.toNat * 2 + j)) = some u := hc0
 obtain ⟨A1, c1, rfl, l1, g1⟩ := k170_open hK
 exact ⟨ad, A1, c1, e, hc 0 _ rfl, by rw [← add_field _ _ 1 (by omega)]; exact hc 1 _ rfl, l1, g1⟩
def rd_L7 (xs : List (List S170)) (i : Int) : (List S170) := xs.getD i.toNat ([] : List S170)
theorem at_L7 {w : World} {A : Option Addr} {n : Nat} {xs : List (List S170)} (h : Kd.C (Kd.slice 170 k170) w A n xs) (i : Int) (h0 : 0 ≤ i) (h1 : i < n) : ∃ ad A0 c0, A = some ad ∧ w.cell? (ad.add i.toNat) = some (.slice A0 (rd_L7 xs i).length c0) ∧ (rd_L7 xs i).length ≤ c0 ∧ k170.C w A0 (rd_L7 xs i).length (rd_L7 xs i) := by
 obtain ⟨ad, c, e, _, hK, hc0⟩ := Kd.C_get h ([] : List S170) i h0 h1
 have hc : ∀ j u, c[j]? = some u → w.cell? (ad.add (i.toNat * 1 + j)) = some u := hc0
 obtain ⟨A0, c0, rfl, l0, g0⟩ := hK
 exact ⟨ad, A0, c0, e, by have hq := hc 0 _ rfl; rwa [Nat.mul_one, Nat.add_zero] at hq, l0, g0⟩
structure S123 where
  f0 : Int
  f1 : (List Int)
  f2 : (List Int)
  f3 : Int
def z123 : S123 := ⟨(0 : Int), ([] : List Int), ([] : List Int), (0 : Int)⟩
def k123 : Kd S123 := Kd.iso (Kd.pair (Kd.int .i64) (Kd.pair (Kd.slice 3 (Kd.int .i64)) (Kd.pair (Kd.slice 3 (Kd.int .i64)) (Kd.int .i64)))) (fun x : S123 => (x.f0, x.f1, x.f2, x.f3))
theorem k123_open {w : World} {x : S123} {cs : List Value} (h : k123.K w x cs) : ∃ A1 c1 A2 c2, cs = [.int .i64 x.f0, .slice A1 x.f1.length c1, .slice A2 x.f2.length c2, .int .i64 x.f3] ∧ x.f1.length ≤ c1 ∧ (Kd.int .i64).C w A1 x.f1.length x.f1 ∧ x.f2.length ≤ c2 ∧ (Kd.int .i64).C w A2 x.f2.length x.f2 := by
 obtain ⟨_, _, rfl, rfl, ⟨_, _, rfl, ⟨A1, c1, rfl, l1, g1⟩, ⟨_, _, rfl, ⟨A2, c2, rfl, l2, g2⟩, rfl⟩⟩⟩ := h
 exact ⟨A1, c1, A2, c2, rfl, l1, g1, l2, g2⟩
theorem k123_mk (w : World) (x : S123) {A1 : Option Addr} {c1 : Nat} (l1 : x.f1.length ≤ c1) (g1 : (Kd.int .i64).C w A1 x.f1.length x.f1) {A2 : Option Addr} {c2 : Nat} (l2 : x.f2.length ≤ c2) (g2 : (Kd.int .i64).C w A2 x.f2.length x.f2) : k123.K w x [.int .i64 x.f0, .slice A1 x.f1.length c1, .slice A2 x.f2.length c2, .int .i64 x.f3] := ⟨[.int .i64 x.f0], [.slice A1 x.f1.length c1, .slice A2 x.f2.length c2, .int .i64 x.f3], rfl, rfl, ⟨[.slice A1 x.f1.length c1], [.slice A2 x.f2.length c2, .int .i64 x.f3], rfl, ⟨A1, c1, rfl, l1, g1⟩, ⟨[.slice A2 x.f2.length c2], [.int .i64 x.f3], rfl, ⟨A2, c2, rfl, l2, g2⟩, rfl⟩⟩⟩
theorem k123_mkF (W : World) (ok : Nat → Prop) (x : S123) {A1 : Option Addr} {c1 : Nat} (l1 : x.f1.length ≤ c1) (g1 : Kd.F (Kd.int .i64) W ok A1 x.f1.length x.f1) {A2 : Option Addr} {c2 : Nat} (l2 : x.f2.length ≤ c2) (g2 : Kd.F (Kd.int .i64) W ok A2 x.f2.length x.f2) : Kd.FK k123 W ok x [.int .i64 x.f0, .slice A1 x.f1.length c1, .slice A2 x.f2.length c2, .int .i64 x.f3] := fun W2 hW => k123_mk W2 x l1 (g1 W2 hW) l2 (g2 W2 hW)
def rd_T123 (xs : List S123) (i : Int) : S123 := xs.getD i.toNat z123
theorem at_T123 {w : World} {A : Option Addr} {n : Nat} {xs : List S123} (h : Kd.C k123 w A n xs) (i : Int) (h0 : 0 ≤ i) (h1 : i < n) : ∃ ad A1 c1 A2 c2, A = some ad ∧ w.cell? (ad.add (i.toNat * 4)) = some (.int .i64 (rd_T123 xs i).f0) ∧ w.cell? ⟨(ad.add (i.toNat * 4)).block, (ad.add (i.toNat * 4)).off + 1, none⟩ = some (.slice A1 (rd_T123 xs i).f1.length c1) ∧ w.cell? ⟨(ad.add (i.toNat * 4)).block, (ad.add (i.toNat * 4)).off + 2, none⟩ = some (.slice A2 (rd_T123 xs i).f2.length c2) ∧ w.cell? ⟨(ad.add (i.toNat * 4)).block, (ad.add (i.toNat * 4)).off + 3, none⟩ = some (.int .i64 (rd_T123 xs i).f3) ∧ (rd_T123 xs i).f1.length ≤ c1 ∧ (Kd.int .i64).C w A1 (rd_T123 xs i).f1.length (rd_T123 xs i).f1 ∧ (rd_T123 xs i).f2.length ≤ c2 ∧ (Kd.int .i64).C w A2 (rd_T123 xs i).f2.length (rd_T123 xs i).f2 := by
 obtain ⟨ad, c, e, _, hK, hc0⟩ := Kd.C_get h z123 i h0 h1
 have hc : ∀ j u, c[j]? = some u → w.cell? (ad.add (i.toNat * 4 + j)) = some u := hc0
 obtain ⟨A1, c1, A2, c2, rfl, l1, g1, l2, g2⟩ := k123_open hK
 exact ⟨ad, A1, c1, A2, c2, e, hc 0 _ rfl, by rw [← add_field _ _ 1 (by omega)]; exact hc 1 _ rfl, by rw [← add_field _ _ 2 (by omega)]; exact hc 2 _ rfl, by rw [← add_field _ _ 3 (by omega)]; exact hc 3 _ rfl, l1, g1, l2, g2⟩
structure S35 where
  f0 : Int
  f1 : Int
def z35 : S35 := ⟨(0 : Int), (0 : Int)⟩
def k35 : Kd S35 := Kd.iso (Kd.pair (Kd.int .i64) (Kd.int .i64)) (fun x : S35 => (x.f0, x.f1))
theorem k35_open {w : World} {x : S35} {cs : List Value} (h : k35.K w x cs) : cs = [.int .i64 x.f0, .int .i64 x.f1] := by
 obtain ⟨_, _, rfl, rfl, rfl⟩ := h
 exact rfl
def rd_T35 (xs : List S35) (i : Int) : S35 := xs.getD i.toNat z35
theorem at_T35 {w : World} {A : Option Addr} {n : Nat} {xs : List S35} (h : Kd.C k35 w A n xs) (i : Int) (h0 : 0 ≤ i) (h1 : i < n) : ∃ ad , A = some ad ∧ w.cell? (ad.add (i.toNat * 2)) = some (.int .i64 (rd_T35 xs i).f0) ∧ w.cell? ⟨(ad.add (i.toNat * 2)).block, (ad.add (i.toNat * 2)).off + 1, none⟩ = some (.int .i64 (rd_T35 xs i).f1) := by
 obtain ⟨ad, c, e, _, hK, hc0⟩ := Kd.C_get h z35 i h0 h1
 have hc : ∀ j u, c[j]? = some u → w.cell? (ad.add (i.toNat * 2 + j)) = some u := hc0
 obtain rfl := k35_open hK
 exact ⟨ad, e, hc 0 _ rfl, by rw [← add_field _ _ 1 (by omega)]; exact hc 1 _ rfl⟩
end Go.Proofs.Ytobachfngmpeiaa.PFnExactMachineNew
namespace Go.Proofs.Ytobachfngmpeiaa.Marks
open Go.RowKit Go.Proofs.YtobachfngmpeiaaW.PrintWords Go.Proofs.YtobachfngmpeiaaW.PrintLast Go.Proofs.YtobachfngmpeiaaW.PrintMore
set_option linter.unusedVariables false
def Sc (v v' : Value) : Prop := v' = v ∨ (∃ k n n', v = .int k n ∧ v' = .int k n') ∨ (∃ b b', v = .bool b ∧ v' = .bool b')
theorem Sc.refl (v : Value) : Sc v v := .inl rfl
theorem Sc.trans {a b c : Value} (h : Sc a b) (k : Sc b c) : Sc a c := by
  rcases h with rfl | ⟨_, _, _, rfl, rfl⟩ | ⟨_, _, rfl, rfl⟩
  · exact k
  · rcases k with rfl | ⟨_, _, n', h1, rfl⟩ | ⟨_, _, h1, _⟩
    · exact .inr (.inl ⟨_, _, _, rfl, rfl⟩)
    · cases h1
      exact .inr (.inl ⟨_, _, _, rfl, rfl⟩)
    · cases h1
  · rcases k with rfl | ⟨_, _, _, h1, _⟩ | ⟨_, b', h1, rfl⟩
    · exact .inr (.inr ⟨_, _, rfl, rfl⟩)
    · cases h1
    · exact .inr (.inr ⟨_, _, rfl, rfl⟩)
def Mk (P : Nat → Prop) (w w' : World) : Prop := Kept w w' P ∧ Below 0 w w' ∧ ∀ (g : Nat) (cs : Array Value) (t : TypeId), w.heap[g]? = some (.cells cs t (0, 0)) → ∃ cs' : Array Value, w'.heap[g]? = some (.cells cs' t (0, 0)) ∧ ∀ (j : Nat) v, cs[j]? = some v → ∃ v', cs'[j]? = some v' ∧ Sc v v'
section
variable {P P' : Nat → Prop} {w w' w1 W : World}
theorem Mk.refl (P : Nat → Prop) (w : World) : Mk P w w := ⟨Kept.refl w P, Below.refl _ _, fun g cs t h => ⟨cs, h, fun j v hj => ⟨v, hj, Sc.refl v⟩⟩⟩
theorem Mk.trans (h : Mk P w w1) (k : Mk P w1 w') : Mk P w w' := by
  refine ⟨h.1.then_ k.1 (fun _ h2 => .inl h2), h.2.1.trans k.2.1, fun g cs t hg => ?_⟩
  obtain ⟨cs1, h1, e1⟩ := h.2.2 g cs t hg
  obtain ⟨cs2, h2, e2⟩ := k.2.2 g cs1 t h1
  refine ⟨cs2, h2, fun j v hj => ?_⟩
  obtain ⟨v1, hv1, s1⟩ := e1 j v hj
  obtain ⟨v2, hv2, s2⟩ := e2 j v1 hv1
  exact ⟨v2, hv2, s1.trans s2⟩
theorem Mk.mono (h : Mk P w w') (hp : ∀ k, P k → P' k) : Mk P' w w' := ⟨h.1.mono hp, h.2⟩
theorem Mk.drewN (h : Mk P w W) (n : Nat) : Mk P w (W.drewN n) := ⟨h.1, pw_below_drewN h.2.1 n, h.2.2⟩
theorem Mk.drew (h : Mk P w W) : Mk P w W.drew := ⟨h.1, below_drew h.2.1, h.2.2⟩
theorem Mk.below (h : Mk P w w') {B : Nat} (hB : B ≤ w.heap.size) (hP : ∀ k, P k → B ≤ k) : Below B w w' := ⟨h.2.1.os, h.2.1.tape, h.2.1.output, h.2.1.size, fun k hk => h.1.2 k (Nat.lt_of_lt_of_le hk hB) (fun hp => by have := hP k hp; omega)⟩
theorem below_set0 (W : World) (a : Addr) (u : Value) : Below 0 W (W.setCell a u) := ⟨rfl, rfl, rfl, by simp [World.setCell], fun k hk => by omega⟩
theorem Mk.of_below (hb : Below w.heap.size w w') : Mk P w w' := ⟨Kept.of_below hb P, hb.mono (Nat.zero_le _), fun g cs t hg => ⟨cs, (hb.block g (blk_lt hg)).trans hg, fun j v hj => ⟨v, hj, Sc.refl v⟩⟩⟩
theorem Mk.set (h : Mk P w W) {g o : Nat} (hP : P g) {v u : Value} (hc : W.cell? ⟨g, o, none⟩ = some v) (hs : Sc v u) : Mk P w (W.setCell ⟨g, o, none⟩ u) := by
  refine ⟨h.1.setCell (.inl hP) u, h.2.1.trans (below_set0 _ _ _), fun g' cs t hg => ?_⟩
  obtain ⟨cs1, h1, e1⟩ := h.2.2 g' cs t hg
  by_cases e : g' = g
  · subst e
    refine ⟨_, blk_set h1 o u, fun j v0 hj => ?_⟩
    obtain ⟨v1, hv1, s1⟩ := e1 j v0 hj
    by_cases ej : j = o
    · subst ej
      have hv : v1 = v := Option.some.inj (hv1.symm.trans ((blk_cell h1 j).symm.trans hc))
      subst hv
      have hlt : j < cs1.size := (Array.getElem?_eq_some_iff.1 hv1).1
      exact ⟨u, by rw [Array.getElem?_setIfInBounds_self]; simp [hlt], s1.trans hs⟩
    · exact ⟨v1, by rw [Array.getElem?_setIfInBounds_ne (Ne.symm ej)]; exact hv1, s1⟩
  · exact ⟨cs1, (Below.heap_setCell W ⟨g, o, none⟩ u g' e).trans h1, e1⟩
end
def IntAt (w : World) (g o : Nat) : Prop := ∃ (cs : Array Value) (t : TypeId) (n : Int), w.heap[g]? = some (.cells cs t (0, 0)) ∧ cs[o]? = some (.int .i64 n)
def BoolAt (w : World) (g o : Nat) : Prop := ∃ (cs : Array Value) (t : TypeId) (b : Bool), w.heap[g]? = some (.cells cs t (0, 0)) ∧ cs[o]? = some (.bool b)
def SlAt (w : World) (g o : Nat) (A : Option Addr) (n c : Nat) : Prop := ∃ (cs : Array Value) (t : TypeId), w.heap[g]? = some (.cells cs t (0, 0)) ∧ cs[o]? = some (.slice A n c)
section
variable {P : Nat → Prop} {w w' : World} {g o n c : Nat} {A : Option Addr}
theorem IntAt.mk (h : IntAt w g o) (k : Mk P w w') : IntAt w' g o := by
  obtain ⟨cs, t, n, h1, h2⟩ := h
  obtain ⟨cs', h3, e⟩ := k.2.2 g cs t h1
  obtain ⟨v', h4, s⟩ := e o _ h2
  rcases s with rfl | ⟨_, _, n', h5, rfl⟩ | ⟨_, _, h5, _⟩
  · exact ⟨cs', t, n, h3, h4⟩
  · cases h5
    exact ⟨cs', t, n', h3, h4⟩
  · cases h5
theorem BoolAt.mk (h : BoolAt w g o) (k : Mk P w w') : BoolAt w' g o := by
  obtain ⟨cs, t, n, h1, h2⟩ := h
  obtain ⟨cs', h3, e⟩ := k.2.2 g cs t h1
  obtain ⟨v', h4, s⟩ := e o _ h2
  rcases s with rfl | ⟨_, _, n', h5, rfl⟩ | ⟨_, b', h5, rfl⟩
  · exact ⟨cs', t, n, h3, h4⟩
  · cases h5
  · exact ⟨cs', t, b', h3, h4⟩
theorem SlAt.mk (h : SlAt w g o A n c) (k : Mk P w w') : SlAt w' g o A n c := by
  obtain ⟨cs, t, h1, h2⟩ := h
  obtain ⟨cs', h3, e⟩ := k.2.2 g cs t h1
  obtain ⟨v', h4, s⟩ := e o _ h2
  rcases s with rfl | ⟨_, _, n', h5, rfl⟩ | ⟨_, b', h5, rfl⟩
  · exact ⟨cs', t, h3, h4⟩
  · cases h5
  · cases h5
theorem IntAt.cell (h : IntAt w g o) : ∃ n, w.cell? ⟨g, o, none⟩ = some (.int .i64 n) ∧ w.frozen? ⟨g, o, none⟩ = false := by
  obtain ⟨cs, t, n, h1, h2⟩ := h
  exact ⟨n, (blk_cell h1 o).trans h2, blk_frozen h1 o⟩
theorem BoolAt.cell (h : BoolAt w g o) : ∃ n, w.cell? ⟨g, o, none⟩ = some (.bool n) ∧ w.frozen? ⟨g, o, none⟩ = false := by
  obtain ⟨cs, t, n, h1, h2⟩ := h
  exact ⟨n, (blk_cell h1 o).trans h2, blk_frozen h1 o⟩
theorem SlAt.cell (h : SlAt w g o A n c) : w.cell? ⟨g, o, none⟩ = some (.slice A n c) := by
  obtain ⟨cs, t, h1, h2⟩ := h
  exact (blk_cell h1 o).trans h2
end
abbrev Cel := Nat × Nat × Bool
def cellv (b : Bool) (k : Int) : Value := if b = true then .bool (decide (Int.tmod k 3 = 0)) else .int .i64 k
def writes : World → List Cel → Int → World
  | w, [], _ => w
  | w, c :: L, k => writes (w.setCell ⟨c.1, c.2.1, none⟩ (cellv c.2.2 k)) L (k + 1)
theorem writes_append : ∀ (L M : List Cel) (w : World) (k : Int), writes w (L ++ M) k = writes (writes w L k) M (k + L.length)
  | [], M, w, k => by simp [writes]
  | c :: L, M, w, k => by
    rw [List.cons_append, writes, writes, writes_append L M, List.length_cons]
    congr 1
    omega
theorem drewN_set (w : World) (n : Nat) (a : Addr) (v : Value) : (w.drewN n).setCell a v = (w.setCell a v).drewN n := rfl
theorem writes_drewN : ∀ (L : List Cel) (w : World) (n : Nat) (k : Int), writes (w.drewN n) L k = (writes w L k).drewN n
  | [], w, n, k => rfl
  | c :: L, w, n, k => by
    rw [writes, writes, drewN_set, writes_drewN L]
def Wr (w : World) (L : List Cel) (k : Int) (w' : World) : Prop := ∃ n, w' = (writes w L k).drewN n
section
variable {w w' w1 w2 : World} {L M : List Cel} {k k2 : Int}
theorem Wr.refl (w : World) (k : Int) : Wr w [] k w := ⟨0, rfl⟩
theorem Wr.drewN (h : Wr w L k w') (n : Nat) : Wr w L k (w'.drewN n) := by
  obtain ⟨m, rfl⟩ := h
  exact ⟨m + n, World.drewN_drewN ..⟩
theorem Wr.trans (h : Wr w L k w1) (h2 : Wr w1 M k2 w2) (e : k2 = k + L.length) : Wr w (L ++ M) k w2 := by
  obtain ⟨m, rfl⟩ := h
  obtain ⟨n, rfl⟩ := h2
  subst e
  rw [writes_drewN, ← writes_append]
  exact ⟨m + n, World.drewN_drewN ..⟩
theorem Wr.set (h : Wr w L k w') {g o : Nat} (b : Bool) {v : Value} (e : v = cellv b (k + L.length)) : Wr w (L ++ [(g, o, b)]) k (w'.setCell ⟨g, o, none⟩ v) :=
  h.trans (k2 := k + L.length) (M := [(g, o, b)]) ⟨0, by subst e; rfl⟩ rfl
theorem Wr.cast (h : Wr w L k w') (e : L = M) : Wr w M k w' := e ▸ h
end
inductive Ty where
  | int | bool | pair (a b : Ty) | sl (a : Ty)
def Ty.sz : Ty → Nat
  | .int => 1
  | .bool => 1
  | .sl _ => 1
  | .pair a b => a.sz + b.sz
def cat (Ls : Nat → List Cel) (n : Nat) : List Cel := (List.range n).flatMap Ls
theorem cat_succ (Ls : Nat → List Cel) (n : Nat) : cat Ls (n + 1) = cat Ls n ++ Ls n := by simp [cat, List.range_succ]
theorem cat_le (Ls : Nat → List Cel) {j n : Nat} (h : j < n) : (cat Ls j).length + (Ls j).length ≤ (cat Ls n).length := by
  have h1 : ∀ d, (cat Ls (j + 1)).length ≤ (cat Ls (j + 1 + d)).length := by
    intro d
    induction d with
    | zero => exact Nat.le_refl _
    | succ d ih => rw [← Nat.add_assoc, cat_succ Ls (j + 1 + d), List.length_append]; omega
  have h2 := h1 (n - (j + 1))
  rw [show j + 1 + (n - (j + 1)) = n by omega, cat_succ, List.length_append] at h2
  exact h2
def Vis (P : Nat → Prop) (w : World) : Ty → Nat → Nat → List Cel → Prop
  | .int, g, o, L => L = [(g, o, false)] ∧ IntAt w g o
  | .bool, g, o, L => L = [(g, o, true)] ∧ BoolAt w g o
  | .pair a b, g, o, L => ∃ L1 L2, L = L1 ++ L2 ∧ Vis P w a g o L1 ∧ Vis P w b g (o + a.sz) L2
  | .sl a, g, o, L => ∃ A n c, SlAt w g o A n c ∧ n ≤ 9223372036854775807 ∧ ∃ Ls, L = cat Ls n ∧ (0 < n → ∃ g', A = some ⟨g', 0, none⟩ ∧ P g' ∧ ∀ i, i < n → Vis P w a g' (i * a.sz) (Ls i))
def RowV (P : Nat → Prop) (w : World) (a : Ty) (A : Option Addr) (n : Nat) (L : List Cel) : Prop := n ≤ 9223372036854775807 ∧ ∃ Ls, L = cat Ls n ∧ (0 < n → ∃ g', A = some ⟨g', 0, none⟩ ∧ P g' ∧ ∀ i, i < n → Vis P w a g' (i * a.sz) (Ls i))
theorem Vis.mk {P Q : Nat → Prop} {w w' : World} (k : Mk Q w w') : ∀ {t : Ty} {g o : Nat} {L : List Cel}, Vis P w t g o L → Vis P w' t g o L
  | .int, g, o, L, h => ⟨h.1, h.2.mk k⟩
  | .bool, g, o, L, h => ⟨h.1, h.2.mk k⟩
  | .pair a b, g, o, L, ⟨L1, L2, e, h1, h2⟩ => ⟨L1, L2, e, Vis.mk k h1, Vis.mk k h2⟩
  | .sl a, g, o, L, ⟨A, n, c, hs, hb, Ls, e, h⟩ => ⟨A, n, c, hs.mk k, hb, Ls, e, fun hn => by
    obtain ⟨g', e', hp, hi⟩ := h hn
    exact ⟨g', e', hp, fun i hl => Vis.mk k (hi i hl)⟩⟩
theorem RowV.mk {P Q : Nat → Prop} {w w' : World} (k : Mk Q w w') {t : Ty} {A : Option Addr} {n : Nat} {L : List Cel} (h : RowV P w t A n L) : RowV P w' t A n L := by
  obtain ⟨hb, Ls, e, h⟩ := h
  exact ⟨hb, Ls, e, fun hn => by
    obtain ⟨g', e', hp, hi⟩ := h hn
    exact ⟨g', e', hp, fun i hl => Vis.mk k (hi i hl)⟩⟩
def HeldAt (w : World) (L : List Cel) (k : Int) : Prop := ∀ (j : Nat) (c : Cel), L[j]? = some c → w.cell? ⟨c.1, c.2.1, none⟩ = some (cellv c.2.2 (k + j))
section
variable {w w' : World} {L M : List Cel} {k : Int}
theorem HeldAt.left (h : HeldAt w (L ++ M) k) : HeldAt w L k := fun j c hj => h j c (by rw [List.getElem?_append_left (List.getElem?_eq_some_iff.1 hj).1]; exact hj)
theorem HeldAt.right (h : HeldAt w (L ++ M) k) : HeldAt w M (k + L.length) := fun j c hj => by
  have := h (L.length + j) c (by rw [List.getElem?_append_right (by omega), Nat.add_sub_cancel_left]; exact hj)
  rw [this]
  congr 2
  push_cast
  omega
theorem HeldAt.one {g o : Nat} {b : Bool} (h : HeldAt w [(g, o, b)] k) : w.cell? ⟨g, o, none⟩ = some (cellv b k) := by
  have := h 0 (g, o, b) rfl
  simpa using this
theorem HeldAt.cat {Ls : Nat → List Cel} {n j : Nat} (h : HeldAt w (cat Ls n) k) (hj : j < n) : HeldAt w (Ls j) (k + (Marks.cat Ls j).length) := by
  have e : ∃ T, Marks.cat Ls n = Marks.cat Ls j ++ (Ls j ++ T) := by
    have h1 : ∀ d, ∃ T, Marks.cat Ls (j + 1 + d) = Marks.cat Ls (j + 1) ++ T := by
      intro d
      induction d with
      | zero => exact ⟨[], by simp⟩
      | succ d ih =>
        obtain ⟨T, e⟩ := ih
        exact ⟨T ++ Ls (j + 1 + d), by rw [← Nat.add_assoc, cat_succ Ls (j + 1 + d), e, List.append_assoc]⟩
    obtain ⟨T, e⟩ := h1 (n - (j + 1))
    rw [show j + 1 + (n - (j + 1)) = n by omega, cat_succ, List.append_assoc] at e
    exact ⟨T, e⟩
  obtain ⟨T, e⟩ := e
  rw [e] at h
  exact h.right.left
end
theorem RowV.drewN {P : Nat → Prop} {w : World} {t : Ty} {A : Option Addr} {n : Nat} {L : List Cel} (h : RowV P w t A n L) (m : Nat) : RowV P (w.drewN m) t A n L := RowV.mk (Q := fun _ => False) ((Mk.refl _ w).drewN m) h
theorem HeldAt.drewN {w : World} {L : List Cel} {k : Int} (h : HeldAt w L k) (m : Nat) : HeldAt (w.drewN m) L k := h
theorem wrap_in {n : Int} (h0 : -9223372036854775808 ≤ n) (h1 : n ≤ 9223372036854775807) : wrap64 n = n := by
  unfold wrap64
  omega
end Go.Proofs.Ytobachfngmpeiaa.Marks
