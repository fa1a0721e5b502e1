/- A row of numbers behind a queue of numbers of the call's own. -/
import Derived.Test.YtbonbflbgopjlaaNext
namespace Go.Proofs.Ytbonbflbgopjlaa.Next
open Go.RowKit Go.Proofs.YtbonbflbgopjlaaW.PrintWords Go.Proofs.YtbonbflbgopjlaaW.PrintLast
section
variable {P : Program} {ops : Array Oper} {rest : List Oper} {o : Oper} {a : Act} {Q' : Exit → Act → World → Prop}
theorem Q_append_rows {w0 W : World} (base : Nat) (hgd : o.guard = none) (s x : Operand) (t e : TypeId) (z : Value) (bytes : Nat)
    (ho : o.op = .call { callee := .builtin .append, args := #[s, x], argTypes := #[t, t] })
    (ht : P.underlying t = some (.slice e)) (hinfo : (P.info? e).map (fun i => (i.zero, i.size, i.bytes)) = some (some z, (Kd.int .i64).sz, bytes)) (hz : z.cells.size = (Kd.int .i64).sz) (hb0 : 0 < bytes)
    (v : Value) (xs ys : List Int) (A : Option Addr) (m c : Nat) (ok : Nat → Prop) (hs : a.eval s = v) (hx : a.eval x = .slice A m c)
    (HO : (Kd.int .i64).Q e W base ok v xs) (HR : (Kd.int .i64).C W A m ys) (hfresh : ∀ k, W.heap.size ≤ k → ok k)
    (HB : Below base w0 W) (hbase : base ≤ W.heap.size) (hl : (xs.length + m) * bytes ≤ 140737488355328)
    (h : ∀ v1 w1, (Kd.int .i64).Q e w1 base ok v1 (xs ++ ys) → Below base w0 w1 → W.grownBy w1 v.ownBlock → (v1.ownBlock = v.ownBlock ∨ ∃ b, v1.ownBlock = some b ∧ W.heap.size ≤ b) → wpList P ops Q' rest (a.put o.dst v1) w1) :
    wpList P ops Q' (o :: rest) a W := by
  obtain ⟨i0, hi, hzz⟩ := Option.map_eq_some_iff.1 hinfo
  simp only [Prod.mk.injEq] at hzz
  obtain ⟨hz0, hz1, hz2⟩ := hzz
  have hm : ys.length = m := HR.1
  have hlen : xs.length + m ≤ 140737488355328 := Nat.le_trans (Nat.le_mul_of_pos_right _ hb0) hl
  obtain ⟨hok, inner, hown, hr⟩ := HO
  have hqt : ∀ k, v.ownBlock = some k → base ≤ k := fun k hk => (q_typed hown k hk).1
  have hrun : ∃ v1 w1, (Builtin.append_ #[t, t] o.type #[v, .slice A m c]).run P W = .ok v1 w1 ∧ (Kd.int .i64).Q e w1 base ok v1 (xs ++ ys) ∧ W.grownBy w1 v.ownBlock ∧ (v1.ownBlock = v.ownBlock ∨ ∃ b, v1.ownBlock = some b ∧ W.heap.size ≤ b) := by
    rcases Nat.eq_zero_or_pos m with h0 | h0
    · subst h0
      obtain rfl : ys = [] := List.eq_nil_of_length_eq_zero hm
      refine ⟨v, W, ?_, by rw [List.append_nil]; exact ⟨hok, inner, hown, hr⟩, World.grownBy.refl W _, .inl rfl⟩
      rcases hown.2 with ⟨hn, A', rfl, _⟩ | ⟨g, off, cap, cur, rfl, _, _, hnc, _⟩
      · cases A <;> cases A' <;> simp [Builtin.append_, run_underlying ht, sizeOf, typeInfo, hi, Builtin.lenOf, Builtin.firstCells, storeCells, loadCells, loadCellsFrom]
      · cases A <;> simp [Builtin.append_, run_underlying ht, sizeOf, typeInfo, hi, Builtin.lenOf, Builtin.firstCells, hnc, storeCells, loadCells, loadCellsFrom]
    · obtain ⟨ad, rfl, _⟩ := HR.2.2 h0
      obtain ⟨news, hnr, hnc⟩ := ReadsRow.inner_ HR
      have hone : ∀ u ∈ news, u.oneCell' = true := by
        intro u hu
        obtain ⟨q, hq, rfl⟩ := List.mem_iff_getElem.1 hu
        have hql : q < ys.length := by
          have := hnr.1
          rw [show (Kd.int .i64).sz = 1 from rfl, Nat.mul_one] at this
          omega
        have h2 := hnr.2 q ys[q] (List.getElem?_eq_getElem hql)
        have h3 : (news.drop (q * 1)).take 1 = [Value.int .i64 ys[q]] := h2
        rw [Nat.mul_one] at h3
        have h4 : news[q]? = some (Value.int .i64 ys[q]) := by
          have h5 := congrArg (·[0]?) h3
          simp only [List.getElem?_take, List.getElem?_drop, Nat.add_zero] at h5
          simpa using h5
        rw [List.getElem?_eq_getElem hq] at h4
        rw [Option.some.inj h4]
        rfl
      obtain ⟨v1, w1, hrun, hq1, hg1, hat⟩ := q_append (P := P) W base t o.type e i0 z (Kd.int .i64).sz bytes ht hi hz0 hz1 hz2 hz (by show 0 < 1; omega) v xs.length inner hown ad m c news (by rw [hnr.1, hm]) hnc hone h0 (by simp only [maxLen]; omega) hl hbase
      refine ⟨v1, w1, hrun, ⟨fun k hk => ?_, inner ++ news, by rw [List.length_append, hm]; exact hq1, Kd.reps_append hr hnr⟩, hg1, hat⟩
      rcases hat with e1 | ⟨b, e1, hbb⟩
      · exact hok k (by rw [← e1]; exact hk)
      · rw [e1] at hk
        injection hk with hk
        subst hk
        exact hfresh _ hbb
  obtain ⟨v1, w1, hr1, h1, h3, h4⟩ := hrun
  refine wpList_plain hgd fun K hK => ?_
  unfold Oper.wp execOp
  simp only [ho, resolve, invoke, builtin, Sem.run_bind, Sem.run_pure, Result.andThen_ok, List.map_toArray, List.map_cons, List.map_nil, hs, hx, hr1]
  exact hK _ _ (h v1 w1 h1 (HB.grown h3 hbase hqt) h3 h4)
end
end Go.Proofs.Ytbonbflbgopjlaa.Next
