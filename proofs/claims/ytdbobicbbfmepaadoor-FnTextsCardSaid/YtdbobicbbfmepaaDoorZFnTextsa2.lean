/- A part of the proof that the law FnTexts holds for every input: the words, functions and walks that its row needs, without a condition of their own. -/
import Derived.Lib.ItoaLen
import Derived.Test.YtdbobicbbfmepaaDoorZFnTextsa0
import Derived.Test.YtdbobicbbfmepaaDoorZFnTextsa1
namespace Go.Proofs.YtdbobicbbfmepaaDoor.Tab
open Go.RowKit Go.Sort Go.Lib Go.Proofs.YtdbobicbbfmepaaDoorW.PrintWords Go.Proofs.YtdbobicbbfmepaaDoorW.PrintLast
def Laid (w : World) : Prop := Lib.TabIs Tryd.prog w "internal/strconv.uint64pow10" .u64 Lib.pow10Tab
theorem Laid.below {w w' : World} (h : Laid w) (hb : Below w.heap.size w w') : Laid w' := by
  unfold Laid Lib.TabIs World.var? at *
  cases hg : Tryd.prog.globalNamed "internal/strconv.uint64pow10" with
  | none => rw [hg] at h; exact absurd h (by simp)
  | some g =>
    rw [hg] at h
    simp only [Option.bind_some] at h ⊢
    have hlt : g < w.heap.size := by
      rcases Nat.lt_or_ge g w.heap.size with c | c
      · exact c
      · rw [Array.getElem?_eq_none c] at h
        exact absurd h (by simp)
    rw [hb.block g hlt]
    exact h
theorem below_grow {B : Nat} {w : World} (hB : B ≤ w.heap.size) (k : Nat) (os : Array Obj) : Below B w (grow (w.drewN k) os) := by
  refine ⟨rfl, rfl, rfl, ?_, fun i hi => ?_⟩
  · show w.heap.size ≤ (w.heap ++ os).size
    rw [Array.size_append]
    omega
  · show (w.heap ++ os)[i]? = w.heap[i]?
    rw [Array.getElem?_append_left (by omega)]
def digitsF (n : Int) : Option ByteArray := if -9223372036854775808 ≤ n ∧ n ≤ 9223372036854775807 then some ⟨(Lib.itoa n).toArray⟩ else none
theorem digits_calls (a0 : Int) (r : ByteArray) (w : World) (h : digitsF a0 = some r) (hT : Laid w) :
    Calls Tryd.prog 40 #[.int .i64 a0] w fun e w' => e = .returned (.string r) ∧ Below w.heap.size w w' := by
  unfold digitsF at h
  by_cases hc : -9223372036854775808 ≤ a0 ∧ a0 ≤ 9223372036854775807
  · rw [if_pos hc] at h
    obtain rfl := Option.some.inj h
    go_enter Tryd.func40, Tryd.ntmps40
    go_wp2_with (go_at_call 81; refine (Tryd.strconv_Itoa a0 hc.1 hc.2 _ hT).mono ?_; rintro e w' ⟨rfl, k, os, rfl⟩)
    go_ret
    exact ⟨rfl, below_grow (Nat.le_refl _) k os⟩
  · rw [if_neg hc] at h
    exact absurd h (by simp)
theorem sz_mk (a : Array UInt8) : (⟨a⟩ : ByteArray).size = a.size := rfl
end Go.Proofs.YtdbobicbbfmepaaDoor.Tab
namespace Go.Proofs.YtdbobicbbfmepaaDoor.Tab
open Go.RowKit Go.Sort Go.Lib Go.Proofs.YtdbobicbbfmepaaDoorW.PrintWords Go.Proofs.YtdbobicbbfmepaaDoorW.PrintLast
def joinF (xs : List ByteArray) (sep : ByteArray) : Option ByteArray := if xs.length ≤ 140737488355328 ∧ (Lib.join (xs.map (·.data.toList)) sep.data.toList).length ≤ 140737488355328 then some ⟨(Lib.join (xs.map (·.data.toList)) sep.data.toList).toArray⟩ else none
theorem join_calls (A0 : Option Addr) (c0 : Nat) (l0 : List ByteArray) (a1 : ByteArray) (r : ByteArray) (w : World) (hr0 : Kd.C Kd.string w A0 l0.length l0) (hc0 : l0.length ≤ c0) (h : joinF l0 a1 = some r) :
    Calls Tryd.prog 43 #[.slice A0 l0.length c0, .string a1] w fun e w' => e = .returned (.string r) ∧ Below w.heap.size w w' := by
  unfold joinF at h
  by_cases hc : l0.length ≤ 140737488355328 ∧ (Lib.join (l0.map (·.data.toList)) a1.data.toList).length ≤ 140737488355328
  case neg => rw [if_neg hc] at h; exact absurd h (by simp)
  rw [if_pos hc] at h
  obtain rfl := Option.some.inj h
  have hq := Kd.reads_of_C (enc := Value.string) (d := ByteArray.empty) (h1 := fun _ => rfl) hr0
  rcases Nat.eq_zero_or_pos l0.length with h0 | h0
  · obtain rfl := List.eq_nil_of_length_eq_zero h0
    refine (Tryd.strings_Join_none A0 c0 a1 w).mono ?_
    rintro e w' ⟨rfl, rfl⟩
    exact ⟨rfl, Below.refl _ _⟩
  · obtain ⟨ad, rfl, hcell⟩ := hq.2.2 h0
    obtain ⟨b, o, s⟩ := ad
    have h1 : w.cell? ⟨b, o, s⟩ = some (.string (l0.getD 0 ByteArray.empty)) := hcell 0 h0
    have hb : b < w.heap.size ∧ s = none := by
      rcases Nat.lt_or_ge b w.heap.size with hb | hb
      · refine ⟨hb, ?_⟩
        cases s with
        | none => rfl
        | some q =>
          exfalso
          unfold World.cell? at h1
          split at h1
          · simp at h1
          · simp at h1
      · exfalso
        unfold World.cell? at h1
        rw [Array.getElem?_eq_none hb] at h1
        simp at h1
    obtain ⟨hb, rfl⟩ := hb
    refine (Tryd.strings_Join b o c0 l0 a1 w (fun j x hx => ?_) hb hc.1 hc0 hc.2).mono ?_
    · have hj : j < l0.length := (List.getElem?_eq_some_iff.mp hx).1
      have h2 := hcell j hj
      rw [show (⟨b, o, none⟩ : Addr).add j = ⟨b, o + j, none⟩ by unfold Addr.add; split <;> simp_all] at h2
      rw [show l0.getD j ByteArray.empty = x by simp [List.getD_eq_getElem?_getD, hx]] at h2
      exact h2
    · rintro e w' ⟨rfl, hb'⟩
      exact ⟨rfl, hb'⟩
end Go.Proofs.YtdbobicbbfmepaaDoor.Tab
