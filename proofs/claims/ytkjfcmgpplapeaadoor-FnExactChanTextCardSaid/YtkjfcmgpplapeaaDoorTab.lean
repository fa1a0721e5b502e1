/- impl.digits answers the number's decimal numeral, in a world where the library's table of powers of ten lies as its text lays it; and the table lies on behind whatever leaves older blocks alone. -/
import Derived.Test.YtkjfcmgpplapeaaDoorShelf
import Derived.Lib.ItoaLen
import Derived.Test.YtkjfcmgpplapeaaDoorWWords
import Derived.Test.YtkjfcmgpplapeaaDoorWLast
namespace Go.Proofs.YtkjfcmgpplapeaaDoor.Tab
open Go.RowKit Go.Sort Go.Lib Go.Proofs.YtkjfcmgpplapeaaDoorW.PrintWords Go.Proofs.YtkjfcmgpplapeaaDoorW.PrintLast
/-- The table of powers of ten lies in the world. -/
def Laid (w : World) : Prop := Lib.TabIs Tryd.prog w "internal/strconv.uint64pow10" .u64 Lib.pow10Tab
theorem Laid.below {w w' : World} (h : Laid w) (hb : Below w.heap.size w w') : Laid w' := by
  unfold Laid Lib.TabIs World.var? at *
  cases hg : Tryd.prog.globalNamed "internal/strconv.uint64pow10" with
  | none => rw [hg] at h; exact absurd h (by simp)
  | some g =>
    rw [hg] at h
    simp only [Option.bind_some] at h ⊢
    have hlt : g < w.heap.size := by
      rcases Nat.lt_or_ge g w.heap.size with c | c
      · exact c
      · rw [Array.getElem?_eq_none c] at h
        exact absurd h (by simp)
    rw [hb.block g hlt]
    exact h
theorem below_grow {B : Nat} {w : World} (hB : B ≤ w.heap.size) (k : Nat) (os : Array Obj) : Below B w (grow (w.drewN k) os) := by
  refine ⟨rfl, rfl, rfl, ?_, fun i hi => ?_⟩
  · show w.heap.size ≤ (w.heap ++ os).size
    rw [Array.size_append]
    omega
  · show (w.heap ++ os)[i]? = w.heap[i]?
    rw [Array.getElem?_append_left (by omega)]
def digitsF (n : Int) : Option ByteArray := if -9223372036854775808 ≤ n ∧ n ≤ 9223372036854775807 then some ⟨(Lib.itoa n).toArray⟩ else none
theorem digits_calls (a0 : Int) (r : ByteArray) (w : World) (h : digitsF a0 = some r) (hT : Laid w) :
    Calls Tryd.prog 64 #[.int .i64 a0] w fun e w' => e = .returned (.string r) ∧ Below w.heap.size w w' := by
  unfold digitsF at h
  by_cases hc : -9223372036854775808 ≤ a0 ∧ a0 ≤ 9223372036854775807
  · rw [if_pos hc] at h
    obtain rfl := Option.some.inj h
    go_enter Tryd.func64, Tryd.ntmps64
    go_wp2_with (go_at_call 122; refine (Tryd.strconv_Itoa a0 hc.1 hc.2 _ hT).mono ?_; rintro e w' ⟨rfl, k, os, rfl⟩)
    go_ret
    exact ⟨rfl, below_grow (Nat.le_refl _) k os⟩
  · rw [if_neg hc] at h
    exact absurd h (by simp)
/-- What is known of a region's worlds may grow on the way. -/
theorem more_ {P : Program} {md : Region.Mode} {ops : Array Oper} {Q : Exit → Act → World → Prop} {S T : World → Prop} : ∀ {fuel : Nat} {l : Array Bool} {a : Act} {w : World}, S w → T w → wpAnyLast P md ops Q (fun w => S w ∧ T w) [] fuel l a w → wpAnyLast P md ops Q S [] fuel l a w
  | 0, _, _, _, _, _, h => h
  | fuel + 1, _, _, _, hS, hT, h => ⟨h.1, fun i hi => wpOp_mono (fun _ _ h' => ⟨fun _ _ => (h'.1 (by simp) ⟨hS, hT⟩).1, more_ (h'.1 (by simp) ⟨hS, hT⟩).1 (h'.1 (by simp) ⟨hS, hT⟩).2 h'.2⟩) (h.2 i hi)⟩
theorem sz_mk (a : Array UInt8) : (⟨a⟩ : ByteArray).size = a.size := rfl
end Go.Proofs.YtkjfcmgpplapeaaDoor.Tab
