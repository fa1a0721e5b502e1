/- slices.Sort and slices.Compact on a row of numbers of the call's own: the row is sorted, the row is cut; what is older stays. -/
import Derived.Test.YtbonbflbgopjlaaShelf
import Derived.Test.YtbonbflbgopjlaaWWords
import Derived.Test.YtbonbflbgopjlaaWLast
namespace Go.Proofs.Ytbonbflbgopjlaa.Next
open Go.RowKit Go.Proofs.YtbonbflbgopjlaaW.PrintWords Go.Proofs.YtbonbflbgopjlaaW.PrintLast
def sorted (zs : List Int) : List Int := zs.mergeSort fun x y => decide (x ≤ y)
/-- Sorted, and each but once. -/
def nx (zs : List Int) : List Int := Lib.compact (sorted zs)
theorem sorted_length (zs : List Int) : (sorted zs).length = zs.length := List.length_mergeSort ..
theorem row_of {W : World} {e base : Nat} {v : Value} {zs : List Int} (h : Kd.R (Kd.int .i64) e W base (fun _ => True) v zs) (hn : zs ≠ []) :
    ∃ g cap cur, v = .slice (some ⟨g, 0, none⟩) zs.length cap ∧ base ≤ g ∧ g < W.heap.size ∧ W.heap[g]? = some (.cells cur e (0, 0)) ∧ zs.length ≤ cap ∧ cap ≤ maxLen ∧ cur.size = cap ∧ Go.Sort.Holds (Value.int .i64) W g 0 zs.toArray := by
  have ho := Kd.own_of_R (enc := Value.int .i64) (h1 := fun _ => rfl) h
  obtain ⟨hl, hr⟩ := ho
  have hp : zs.length ≠ 0 := by simpa using hn
  rcases hr with ⟨rfl, h0⟩ | ⟨g, cap, cur, rfl, hg, hh, h1, h2, h3, h4⟩
  · exact absurd h0 hp
  · refine ⟨g, cap, cur, rfl, hg, (Array.getElem?_eq_some_iff.mp hh).1, hh, h1, h2, by omega, ?_⟩
    intro j hj
    have hj2 : j < zs.length := by simpa using hj
    have h5 := Kd.R_cell (enc := Value.int .i64) (h1 := fun _ => rfl) (0 : Int) h (j : Int) (by omega) (by omega)
    rw [Int.toNat_natCast] at h5
    rw [Nat.zero_add, show zs.toArray[j]! = rdOf (0 : Int) zs (j : Int) by simp [rdOf, List.getD_eq_getElem?_getD, hj2]]
    exact h5
theorem row_put {W : World} {e base g cap : Nat} {cur : Array Value} (xs ys : List Int) (hg : base ≤ g) (hh : W.heap[g]? = some (.cells cur e (0, 0))) (hl : (xs ++ ys).length ≤ cap) (hm : cap ≤ maxLen) (hc : cur.size = cap) (n : Nat) (os : Array Obj) :
    Kd.R (Kd.int .i64) e (Go.Sort.grow (Go.Sort.putRow (Value.int .i64) (Go.Sort.ahead W n) g 0 (xs ++ ys).toArray) os) base (fun _ => True) (.slice (some ⟨g, 0, none⟩) xs.length cap) xs ∧ Below base W (Go.Sort.grow (Go.Sort.putRow (Value.int .i64) (Go.Sort.ahead W n) g 0 (xs ++ ys).toArray) os) := by
  have hlt : g < W.heap.size := (Array.getElem?_eq_some_iff.mp hh).1
  have hheap : (Go.Sort.grow (Go.Sort.putRow (Value.int .i64) (Go.Sort.ahead W n) g 0 (xs ++ ys).toArray) os).heap = W.heap.modify g (Go.Sort.onCells (Go.Sort.putCells (Value.int .i64) 0 (xs ++ ys).toArray)) ++ os := rfl
  rw [List.length_append] at hl
  constructor
  · refine Kd.R_of_own (enc := Value.int .i64) (h1 := fun _ => rfl) ⟨by simp [encs], .inr ⟨g, cap, Go.Sort.putCells (Value.int .i64) 0 (xs ++ ys).toArray cur, rfl, hg, ?_, by omega, hm, ?_, ?_⟩⟩ (fun _ _ => trivial)
    · rw [hheap, Array.getElem?_append_left (by simpa using hlt), Array.getElem?_modify, if_pos rfl, hh]
      rfl
    · simp [Go.Sort.putCells, hc]
    · apply List.ext_getElem?
      intro j
      rw [Nat.mul_one]
      by_cases hj : j < xs.length
      · rw [List.getElem?_take_of_lt hj]
        simp only [Go.Sort.putCells, Array.getElem?_toList, Array.getElem?_mapIdx, encs, List.getElem?_map]
        rw [Array.getElem?_eq_getElem (by omega), List.getElem?_eq_getElem hj, Option.map_some, Option.map_some]
        rw [if_pos ⟨by omega, by simp; omega⟩]
        have : ((xs ++ ys).toArray)[j - 0]! = xs[j] := by
          rw [Nat.sub_zero]
          simp [List.getElem?_append_left hj, hj]
        rw [this]
      · rw [List.getElem?_eq_none (by simp; omega), List.getElem?_eq_none (by simp [encs]; omega)]
  · refine ⟨rfl, rfl, rfl, ?_, fun i hi => ?_⟩
    · rw [hheap]
      simp
    · rw [hheap, Array.getElem?_append_left (by simp; omega), Array.getElem?_modify, if_neg (by omega)]
theorem sort_calls {W : World} {e base : Nat} {v : Value} {zs : List Int} (h : Kd.R (Kd.int .i64) e W base (fun _ => True) v zs) (hn : zs ≠ []) (hz : zs.length < 4611686018427387904) :
    Calls Try.prog 60 #[v] W fun x w' => x = .returned (.tuple #[]) ∧ Kd.R (Kd.int .i64) e w' base (fun _ => True) v (sorted zs) ∧ Below base W w' := by
  obtain ⟨g, cap, cur, rfl, hg, hlt, hh, h1, h2, h3, hH⟩ := row_of h hn
  refine (Try.slices_Sort_int g 0 cap zs W hH hlt hz).mono ?_
  rintro x w' ⟨rfl, n, os, rfl⟩
  have := row_put (W := W) (sorted zs) [] hg hh (by simp [sorted_length]; exact h1) h2 h3 n os
  rw [List.append_nil, sorted_length] at this
  exact ⟨rfl, this.1, this.2⟩
theorem compact_calls {W : World} {e base : Nat} {v : Value} {zs : List Int} (h : Kd.R (Kd.int .i64) e W base (fun _ => True) v zs) (hn : zs ≠ []) (hz : zs.length ≤ 9223372036854775807) :
    Calls Try.prog 61 #[v] W fun x w' => ∃ u, x = .returned u ∧ Kd.R (Kd.int .i64) e w' base (fun _ => True) u (Lib.compact zs) ∧ Below base W w' := by
  obtain ⟨g, cap, cur, rfl, hg, hlt, hh, h1, h2, h3, hH⟩ := row_of h hn
  refine (Try.slices_Compact_int g 0 cap zs W hH hz h1).mono ?_
  rintro x w' ⟨rfl, n, rfl⟩
  have hcl : (Lib.compact zs).length ≤ zs.length := by
    unfold Lib.compact Lib.compactUpTo
    rw [List.length_map]
    have := List.length_filter_le (Lib.keeps zs.toArray) (List.range zs.length)
    rw [List.length_range] at this
    exact this
  have := row_put (W := W) (Lib.compact zs) (List.replicate (zs.length - (Lib.compact zs).length) 0) hg hh (by simp; omega) h2 h3 n #[]
  rw [Go.Sort.grow_empty] at this
  exact ⟨_, rfl, this.1, this.2⟩
end Go.Proofs.Ytbonbflbgopjlaa.Next
