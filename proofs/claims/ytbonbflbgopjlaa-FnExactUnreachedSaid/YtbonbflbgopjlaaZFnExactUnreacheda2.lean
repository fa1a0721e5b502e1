/- A part of the proof that the law FnExactUnreached holds for every input: the words, functions and walks that its row needs, without a condition of their own. -/
import Derived.Test.YtbonbflbgopjlaaZFnExactUnreacheda0
import Derived.Test.YtbonbflbgopjlaaZFnExactUnreacheda1
namespace Go.Proofs.Ytbonbflbgopjlaa.Next
open Go.RowKit Go.Proofs.YtbonbflbgopjlaaW.PrintWords Go.Proofs.YtbonbflbgopjlaaW.PrintLast
def sorted (zs : List Int) : List Int := zs.mergeSort fun x y => decide (x ≤ y)
def nx (zs : List Int) : List Int := Lib.compact (sorted zs)
theorem sorted_length (zs : List Int) : (sorted zs).length = zs.length := List.length_mergeSort ..
theorem row_of {W : World} {e base : Nat} {v : Value} {zs : List Int} (h : Kd.R (Kd.int .i64) e W base (fun _ => True) v zs) (hn : zs ≠ []) :
    ∃ g cap cur, v = .slice (some ⟨g, 0, none⟩) zs.length cap ∧ base ≤ g ∧ g < W.heap.size ∧ W.heap[g]? = some (.cells cur e (0, 0)) ∧ zs.length ≤ cap ∧ cap ≤ maxLen ∧ cur.size = cap ∧ Go.Sort.Holds (Value.int .i64) W g 0 zs.toArray := by
  have ho := Kd.own_of_R (enc := Value.int .i64) (h1 := fun _ => rfl) h
  obtain ⟨hl, hr⟩ := ho
  have hp : zs.length ≠ 0 := by simpa using hn
  rcases hr with ⟨rfl, h0⟩ | ⟨g, cap, cur, rfl, hg, hh, h1, h2, h3, h4⟩
  · exact absurd h0 hp
  · refine ⟨g, cap, cur, rfl, hg, (Array.getElem?_eq_some_iff.mp hh).1, hh, h1, h2, by omega, ?_⟩
    intro j hj
    have hj2 : j < zs.length := by simpa using hj
    have h5 := Kd.R_cell (enc := Value.int .i64) (h1 := fun _ => rfl) (0 : Int) h (j : Int) (by omega) (by omega)
    rw [Int.toNat_natCast] at h5
    rw [Nat.zero_add, show zs.toArray[j]! = rdOf (0 : Int) zs (j : Int) by simp [rdOf, List.getD_eq_getElem?_getD, hj2]]
    exact h5
theorem row_put {W : World} {e base g cap : Nat} {cur : Array Value} (xs ys : List Int) (hg : base ≤ g) (hh : W.heap[g]? = some (.cells cur e (0, 0))) (hl : (xs ++ ys).length ≤ cap) (hm : cap ≤ maxLen) (hc : cur.size = cap) (n : Nat) (os : Array Obj) :
    Kd.R (Kd.int .i64) e (Go.Sort.grow (Go.Sort.putRow (Value.int .i64) (Go.Sort.ahead W n) g 0 (xs ++ ys).toArray) os) base (fun _ => True) (.slice (some ⟨g, 0, none⟩) xs.length cap) xs ∧ Below base W (Go.Sort.grow (Go.Sort.putRow (Value.int .i64) (Go.Sort.ahead W n) g 0 (xs ++ ys).toArray) os) := by
  have hlt : g < W.heap.size := (Array.getElem?_eq_some_iff.mp hh).1
  have hheap : (Go.Sort.grow (Go.Sort.putRow (Value.int .i64) (Go.Sort.ahead W n) g 0 (xs ++ ys).toArray) os).heap = W.heap.modify g (Go.Sort.onCells (Go.Sort.putCells (Value.int .i64) 0 (xs ++ ys).toArray)) ++ os := rfl
  rw [List.length_append] at hl
  constructor
  · refine Kd.R_of_own (enc := Value.int .i64) (h1 := fun _ => rfl) ⟨by simp [encs], .inr ⟨g, cap, Go.Sort.putCells (Value.int .i64) 0 (xs ++ ys).toArray cur, rfl, hg, ?_, by omega, hm, ?_, ?_⟩⟩ (fun _ _ => trivial)
    · rw [hheap, Array.getElem?_append_left (by simpa using hlt), Array.getElem?_modify, if_pos rfl, hh]
      rfl
    · simp [Go.Sort.putCells, hc]
    · apply List.ext_getElem?
      intro j
      rw [Nat.mul_one]
      by_cases hj : j < xs.length
      · rw [List.getElem?_take_of_lt hj]
        simp only [Go.Sort.putCells, Array.getElem?_toList, Array.getElem?_mapIdx, encs, List.getElem?_map]
        rw [Array.getElem?_eq_getElem (by omega), List.getElem?_eq_getElem hj, Option.map_some, Option.map_some]
        rw [if_pos ⟨by omega, by simp; omega⟩]
        have : ((xs ++ ys).toArray)[j - 0]! = xs[j] := by
          rw [Nat.sub_zero]
          simp [List.getElem?_append_left hj, hj]
        rw [this]
      · rw [List.getElem?_eq_none (by simp; omega), List.getElem?_eq_none (by simp [encs]; omega)]
  · refine ⟨rfl, rfl, rfl, ?_, fun i hi => ?_⟩
    · rw [hheap]
      simp
    · rw [hheap, Array.getElem?_append_left (by simp; omega), Array.getElem?_modify, if_neg (by omega)]
theorem sort_calls {W : World} {e base : Nat} {v : Value} {zs : List Int} (h : Kd.R (Kd.int .i64) e W base (fun _ => True) v zs) (hn : zs ≠ []) (hz : zs.length < 4611686018427387904) :
    Calls Try.prog 60 #[v] W fun x w' => x = .returned (.tuple #[]) ∧ Kd.R (Kd.int .i64) e w' base (fun _ => True) v (sorted zs) ∧ Below base W w' := by
  obtain ⟨g, cap, cur, rfl, hg, hlt, hh, h1, h2, h3, hH⟩ := row_of h hn
  refine (Try.slices_Sort_int g 0 cap zs W hH hlt hz).mono ?_
  rintro x w' ⟨rfl, n, os, rfl⟩
  have := row_put (W := W) (sorted zs) [] hg hh (by simp [sorted_length]; exact h1) h2 h3 n os
  rw [List.append_nil, sorted_length] at this
  exact ⟨rfl, this.1, this.2⟩
theorem compact_calls {W : World} {e base : Nat} {v : Value} {zs : List Int} (h : Kd.R (Kd.int .i64) e W base (fun _ => True) v zs) (hn : zs ≠ []) (hz : zs.length ≤ 9223372036854775807) :
    Calls Try.prog 61 #[v] W fun x w' => ∃ u, x = .returned u ∧ Kd.R (Kd.int .i64) e w' base (fun _ => True) u (Lib.compact zs) ∧ Below base W w' := by
  obtain ⟨g, cap, cur, rfl, hg, hlt, hh, h1, h2, h3, hH⟩ := row_of h hn
  refine (Try.slices_Compact_int g 0 cap zs W hH hz h1).mono ?_
  rintro x w' ⟨rfl, n, rfl⟩
  have hcl : (Lib.compact zs).length ≤ zs.length := by
    unfold Lib.compact Lib.compactUpTo
    rw [List.length_map]
    have := List.length_filter_le (Lib.keeps zs.toArray) (List.range zs.length)
    rw [List.length_range] at this
    exact this
  have := row_put (W := W) (Lib.compact zs) (List.replicate (zs.length - (Lib.compact zs).length) 0) hg hh (by simp; omega) h2 h3 n #[]
  rw [Go.Sort.grow_empty] at this
  exact ⟨_, rfl, this.1, this.2⟩
end Go.Proofs.Ytbonbflbgopjlaa.Next
namespace Go.Proofs.Ytbonbflbgopjlaa.Next
open Go.RowKit Go.Proofs.YtbonbflbgopjlaaW.PrintWords Go.Proofs.YtbonbflbgopjlaaW.PrintLast
section
variable {P : Program} {ops : Array Oper} {rest : List Oper} {o : Oper} {a : Act} {Q' : Exit → Act → World → Prop}
theorem Q_append_rows {w0 W : World} (base : Nat) (hgd : o.guard = none) (s x : Operand) (t e : TypeId) (z : Value) (bytes : Nat)
    (ho : o.op = .call { callee := .builtin .append, args := #[s, x], argTypes := #[t, t] })
    (ht : P.underlying t = some (.slice e)) (hinfo : (P.info? e).map (fun i => (i.zero, i.size, i.bytes)) = some (some z, (Kd.int .i64).sz, bytes)) (hz : z.cells.size = (Kd.int .i64).sz) (hb0 : 0 < bytes)
    (v : Value) (xs ys : List Int) (A : Option Addr) (m c : Nat) (ok : Nat → Prop) (hs : a.eval s = v) (hx : a.eval x = .slice A m c)
    (HO : (Kd.int .i64).Q e W base ok v xs) (HR : (Kd.int .i64).C W A m ys) (hfresh : ∀ k, W.heap.size ≤ k → ok k)
    (HB : Below base w0 W) (hbase : base ≤ W.heap.size) (hl : (xs.length + m) * bytes ≤ 140737488355328)
    (h : ∀ v1 w1, (Kd.int .i64).Q e w1 base ok v1 (xs ++ ys) → Below base w0 w1 → W.grownBy w1 v.ownBlock → (v1.ownBlock = v.ownBlock ∨ ∃ b, v1.ownBlock = some b ∧ W.heap.size ≤ b) → wpList P ops Q' rest (a.put o.dst v1) w1) :
    wpList P ops Q' (o :: rest) a W := by
  obtain ⟨i0, hi, hzz⟩ := Option.map_eq_some_iff.1 hinfo
  simp only [Prod.mk.injEq] at hzz
  obtain ⟨hz0, hz1, hz2⟩ := hzz
  have hm : ys.length = m := HR.1
  have hlen : xs.length + m ≤ 140737488355328 := Nat.le_trans (Nat.le_mul_of_pos_right _ hb0) hl
  obtain ⟨hok, inner, hown, hr⟩ := HO
  have hqt : ∀ k, v.ownBlock = some k → base ≤ k := fun k hk => (q_typed hown k hk).1
  have hrun : ∃ v1 w1, (Builtin.append_ #[t, t] o.type #[v, .slice A m c]).run P W = .ok v1 w1 ∧ (Kd.int .i64).Q e w1 base ok v1 (xs ++ ys) ∧ W.grownBy w1 v.ownBlock ∧ (v1.ownBlock = v.ownBlock ∨ ∃ b, v1.ownBlock = some b ∧ W.heap.size ≤ b) := by
    rcases Nat.eq_zero_or_pos m with h0 | h0
    · subst h0
      obtain rfl : ys = [] := List.eq_nil_of_length_eq_zero hm
      refine ⟨v, W, ?_, by rw [List.append_nil]; exact ⟨hok, inner, hown, hr⟩, World.grownBy.refl W _, .inl rfl⟩
      rcases hown.2 with ⟨hn, A', rfl, _⟩ | ⟨g, off, cap, cur, rfl, _, _, hnc, _⟩
      · cases A <;> cases A' <;> simp [Builtin.append_, run_underlying ht, sizeOf, typeInfo, hi, Builtin.lenOf, Builtin.firstCells, storeCells, loadCells, loadCellsFrom]
      · cases A <;> simp [Builtin.append_, run_underlying ht, sizeOf, typeInfo, hi, Builtin.lenOf, Builtin.firstCells, hnc, storeCells, loadCells, loadCellsFrom]
    · obtain ⟨ad, rfl, _⟩ := HR.2.2 h0
      obtain ⟨news, hnr, hnc⟩ := ReadsRow.inner_ HR
      have hone : ∀ u ∈ news, u.oneCell' = true := by
        intro u hu
        obtain ⟨q, hq, rfl⟩ := List.mem_iff_getElem.1 hu
        have hql : q < ys.length := by
          have := hnr.1
          rw [show (Kd.int .i64).sz = 1 from rfl, Nat.mul_one] at this
          omega
        have h2 := hnr.2 q ys[q] (List.getElem?_eq_getElem hql)
        have h3 : (news.drop (q * 1)).take 1 = [Value.int .i64 ys[q]] := h2
        rw [Nat.mul_one] at h3
        have h4 : news[q]? = some (Value.int .i64 ys[q]) := by
          have h5 := congrArg (·[0]?) h3
          simp only [List.getElem?_take, List.getElem?_drop, Nat.add_zero] at h5
          simpa using h5
        rw [List.getElem?_eq_getElem hq] at h4
        rw [Option.some.inj h4]
        rfl
      obtain ⟨v1, w1, hrun, hq1, hg1, hat⟩ := q_append (P := P) W base t o.type e i0 z (Kd.int .i64).sz bytes ht hi hz0 hz1 hz2 hz (by show 0 < 1; omega) v xs.length inner hown ad m c news (by rw [hnr.1, hm]) hnc hone h0 (by simp only [maxLen]; omega) hl hbase
      refine ⟨v1, w1, hrun, ⟨fun k hk => ?_, inner ++ news, by rw [List.length_append, hm]; exact hq1, Kd.reps_append hr hnr⟩, hg1, hat⟩
      rcases hat with e1 | ⟨b, e1, hbb⟩
      · exact hok k (by rw [← e1]; exact hk)
      · rw [e1] at hk
        injection hk with hk
        subst hk
        exact hfresh _ hbb
  obtain ⟨v1, w1, hr1, h1, h3, h4⟩ := hrun
  refine wpList_plain hgd fun K hK => ?_
  unfold Oper.wp execOp
  simp only [ho, resolve, invoke, builtin, Sem.run_bind, Sem.run_pure, Result.andThen_ok, List.map_toArray, List.map_cons, List.map_nil, hs, hx, hr1]
  exact hK _ _ (h v1 w1 h1 (HB.grown h3 hbase hqt) h3 h4)
end
end Go.Proofs.Ytbonbflbgopjlaa.Next
