/- A part of the proof that the law FnExactInsRead holds for every input: the words, functions and walks that its row needs, without a condition of their own. -/
import Derived.Test.YtkjfcmgpplapeaaDoorZFnExactInsReada4
import Derived.Test.YtkjfcmgpplapeaaDoorZFnExactInsReada8
import Derived.Test.YtkjfcmgpplapeaaDoorZFnExactInsReada9
import Derived.Test.YtkjfcmgpplapeaaDoorZFnExactInsReads
namespace Go.Proofs.YtkjfcmgpplapeaaDoor.PFnExactInsRead
open Go.RowKit Go.Proofs.YtkjfcmgpplapeaaDoorW.PrintWords Go.Proofs.YtkjfcmgpplapeaaDoorW.PrintLast Go.Proofs.YtkjfcmgpplapeaaDoorW.PrintMore
attribute [local go_sem] max2_int min2_int max_two min_two max_three min_three max_four min_four   -- for this text's walks alone
set_option linter.unusedVariables false
set_option linter.unusedSimpArgs false
mutual
def impl_InsRead.l0 : Nat → ByteArray → List ByteArray → List Int → List ByteArray → Int → Int → Option (Int × Int × Int × Int × Int × Bool)
  | 0, _, _, _, _, _, _ => none
  | k + 1, x0, x4, x5, x20, x21, x22 => if x22 < x21 then (if 0 ≤ x22 then (if x22 < (x20.length : Int) then ((strconv_Atoi_102.f (rdOf ByteArray.empty x20 x22)).bind fun bt230 => (if bt230.2.isNone = true then (if x5.length < 17592186044416 then (impl_InsRead.l0 k x0 x4 (x5 ++ [bt230.1]) x20 x21 (wrap64 (x22 + 1))) else (none)) else (some (0, 0, 0, 0, 0, false)))) else (none)) else (none)) else ((impl_copyInts.f x5).bind fun t236 => ((some (([0, 0, 0] : List Int) : List Int)).bind fun y239 => (if t236.length + y239.length < 17592186044416 then ((some (t236 ++ y239 : List Int)).bind fun y242 => (if 0 < (y242.length : Int) then (if 1 < (y242.length : Int) then (if 2 < (y242.length : Int) then (if 0 < (x4.length : Int) then ((impl_opOf.f k (rdOf ByteArray.empty x4 0)).bind fun t249 => (if t249 = 1 then (impl_InsRead.j4 k x0 t249 (rd y242 0) 0 0 (rd y242 1)) else (if t249 = 2 then (impl_InsRead.j1 k x0 (rd y242 0) (rd y242 1) (rd y242 2) t249 (t249 == 2) t249 0 0 0 0) else (if t249 = 3 then (impl_InsRead.j1 k x0 (rd y242 0) (rd y242 1) (rd y242 2) t249 (t249 == 3) t249 0 0 0 0) else (impl_InsRead.j1 k x0 (rd y242 0) (rd y242 1) (rd y242 2) t249 (t249 == 4) t249 0 0 0 0))))) else (none)) else (none)) else (none)) else (none))) else (none))))
def impl_InsRead.j4 : Nat → ByteArray → Int → Int → Int → Int → Int → Option (Int × Int × Int × Int × Int × Bool)
  | 0, _, _, _, _, _, _ => none
  | k + 1, x0, x251000, x251001, x251002, x251003, x251004 => (impl_InsText.f k x251000 x251001 x251002 x251003 x251004).bind fun t251 => (if t251.toList = ([] : List UInt8) then (some (0, 0, 0, 0, 0, false)) else (if t251.toList = x0.toList then (some (x251000, x251001, x251002, x251003, x251004, true)) else (some (0, 0, 0, 0, 0, false))))
def impl_InsRead.j1 : Nat → ByteArray → Int → Int → Int → Int → Bool → Int → Int → Int → Int → Int → Option (Int × Int × Int × Int × Int × Bool)
  | 0, _, _, _, _, _, _, _, _, _, _, _ => none
  | k + 1, x0, x11, x12, x13, x58, x65, x251000, x251001, x251002, x251003, x251004 => if x65 = true then (impl_InsRead.j4 k x0 x251000 x11 x12 x13 x251004) else (if x58 = 5 then (impl_InsRead.j4 k x0 x251000 x251001 x12 x251003 x11) else (if x58 = 6 then (impl_InsRead.j2 k x0 x11 x12 x13 x58 (x58 == 6) x251000 x251001 x251002 x251003 x251004) else (impl_InsRead.j2 k x0 x11 x12 x13 x58 (x58 == 8) x251000 x251001 x251002 x251003 x251004)))
def impl_InsRead.j2 : Nat → ByteArray → Int → Int → Int → Int → Bool → Int → Int → Int → Int → Int → Option (Int × Int × Int × Int × Int × Bool)
  | 0, _, _, _, _, _, _, _, _, _, _, _ => none
  | k + 1, x0, x11, x12, x13, x58, x81, x251000, x251001, x251002, x251003, x251004 => if x81 = true then (impl_InsRead.j4 k x0 x251000 x11 x251002 x12 x13) else (if x58 = 7 then (impl_InsRead.j4 k x0 x251000 x11 x13 x251003 x12) else (if x58 = 9 then (impl_InsRead.j3 k x0 x11 x12 x58 (x58 == 9) x251000 x251001 x251002 x251003 x251004) else (impl_InsRead.j3 k x0 x11 x12 x58 (x58 == 11) x251000 x251001 x251002 x251003 x251004)))
def impl_InsRead.j3 : Nat → ByteArray → Int → Int → Int → Bool → Int → Int → Int → Int → Int → Option (Int × Int × Int × Int × Int × Bool)
  | 0, _, _, _, _, _, _, _, _, _, _ => none
  | k + 1, x0, x11, x12, x58, x98, x251000, x251001, x251002, x251003, x251004 => if x98 = true then (impl_InsRead.j4 k x0 x251000 x251001 x251002 x251003 x11) else (if x58 = 10 then (impl_InsRead.j4 k x0 x251000 x251001 x11 x251003 x251004) else (if x58 = 12 then (impl_InsRead.j4 k x0 x251000 x251001 x11 x251003 x12) else (impl_InsRead.j4 k x0 x251000 x251001 x251002 x251003 x251004)))
end
def impl_InsRead.f (k : Nat) (a0 : ByteArray) : Option (Int × Int × Int × Int × Int × Bool) := (strings_Split.f a0 (⟨#[32]⟩ : ByteArray)).bind fun t219 => (if 1 ≤ (t219.length : Int) then ((some (t219.drop 1 : List ByteArray)).bind fun y225 => (impl_InsRead.l0 k a0 t219 (([] : List Int)) y225 (y225.length : Int) 0)) else (none))
set_option maxHeartbeats 8000000 in
set_option maxRecDepth 100000 in
theorem impl_InsRead.calls (k : Nat) (a0 : ByteArray) (r1 : Int) (r2 : Int) (r3 : Int) (r4 : Int) (r5 : Int) (r6 : Bool) (w : World) (h : impl_InsRead.f k a0 = some (r1, r2, r3, r4, r5, r6)) (hT : TabT.Laid w) :
  Calls Tryd.prog 50 #[.string a0] w fun e w' => e = .returned (.tuple #[.agg #[.int .i64 r1, .int .i64 r2, .int .i64 r3, .int .i64 r4, .int .i64 r5], .bool r6]) ∧ Below w.heap.size w w' := by
 have hu32 := Tryd.underlying32
 have hu121 := Tryd.underlying121
 have hu164 := Tryd.underlying164
 have HB := aM_ (Below.refl w.heap.size w)
 have H : ((strings_Split.f a0 (⟨#[32]⟩ : ByteArray)).bind fun t219 => (if 1 ≤ (t219.length : Int) then ((some (t219.drop 1 : List ByteArray)).bind fun y225 => (impl_InsRead.l0 k a0 t219 (([] : List Int)) y225 (y225.length : Int) 0)) else (none))) = some (r1, r2, r3, r4, r5, r6) := h
 clear h
 replace H := Option.bind_eq_some_iff.mp H
 obtain ⟨t219, A20, H⟩ := H
 replace H : (if 1 ≤ (t219.length : Int) then ((some (t219.drop 1 : List ByteArray)).bind fun y225 => (impl_InsRead.l0 k a0 t219 (([] : List Int)) y225 (y225.length : Int) 0)) else (none)) = some (r1, r2, r3, r4, r5, r6) := H
 have A2 := aM_ A20
 clear A20
 obtain ⟨y222, hy222⟩ : ∃ y_ : List Int, y_ = (([] : List Int)) := ⟨_, rfl⟩
 replace H : (if 1 ≤ (t219.length : Int) then ((some (t219.drop 1 : List ByteArray)).bind fun y225 => (impl_InsRead.l0 k a0 t219 y222 y225 (y225.length : Int) 0)) else (none)) = some (r1, r2, r3, r4, r5, r6) := by first | (rw [hy222]; with_reducible exact H) | (have H2_ := (Option.bind_some _ _).symm.trans H; rw [hy222]; with_reducible exact H2_) | (have H2_ := (Option.bind_some _ _).symm.trans H; with_reducible exact H2_) | with_reducible exact H | (rw [hy222]; exact H) | exact H
 have Ny222 := aM_ hy222
 clear hy222
 by_cases c3 : 1 ≤ (t219.length : Int)
 ·rw [if_pos c3] at H
  have c3b0 := eq_true c3
  have c3b1 : decide (1 ≤ (t219.length : Int)) = true := decide_eq_true c3
  clear c3
  obtain ⟨y225, hy225⟩ : ∃ y_ : List ByteArray, y_ = (t219.drop 1) := ⟨_, rfl⟩
  replace H : (impl_InsRead.l0 k a0 t219 y222 y225 (y225.length : Int) 0) = some (r1, r2, r3, r4, r5, r6) := by first | (rw [hy225]; with_reducible exact H) | (have H2_ := (Option.bind_some _ _).symm.trans H; rw [hy225]; with_reducible exact H2_) | (have H2_ := (Option.bind_some _ _).symm.trans H; with_reducible exact H2_) | with_reducible exact H | (rw [hy225]; exact H) | exact H
  have Ny225 := aM_ hy225
  clear hy225
  have H' := aM_ H
  clear H
  go_enter Tryd.func50, Tryd.ntmps50
  go_wp2_with (first | ((with_reducible refine gate_dst (N := 2) rfl ?_); refine box_event ?hg (N := 2) ?hd (cs := #[.int .i64 0, .int .i64 0, .int .i64 0, .int .i64 0, .int .i64 0]) (t := 32) ?hr ?_; (case hd => rfl); (case hg => rfl); (case hr => first | (go_simp; done) | (go_simp; rfl)); intro gb218 hg w4 hbox hb; have n0 := aM_ (below_step (by repeat (first | (with_reducible first | exact HB.out | apply hA_ | apply hN_ | apply hD_) | exact HB.out)) hb); have n1 := aM_ (hbox); have n2 := aM_ ((by rw [hg]; exact (below_size (by repeat (first | (with_reducible first | exact HB.out | apply hA_ | apply hN_ | apply hD_) | exact HB.out))) : w.heap.size ≤ gb218)); have n3 := aM_ ((by rw [hg]; exact (below_size (by repeat (first | (with_reducible first | exact HB.out | apply hA_ | apply hN_ | apply hD_) | exact HB.out))) : w.heap.size ≤ gb218)); clear HB; have HB := n0; have BK218 := n1; have GW218 := n2; have GE218 := n3; clear n0 n1 n2 n3; clear hb hbox hg) | (go_at_call 101; (with_reducible refine (strings_Split.calls a0 (⟨#[32]⟩ : ByteArray) t219 _ A2.out ?sT).mono ?_); (case sT => first | with_reducible exact hT | exact TabT.Laid.below hT (by repeat (first | (with_reducible first | exact HB.out | apply hA_ | apply hN_ | apply hD_ | refine below_set ?_ GE218.out | refine below_set ?_ GE250.out) | exact HB.out))); rintro e w5 ⟨v220, rfl, ho0, hb⟩; have n0 := aM_ (Kd.R_lower ho0 (below_size (by repeat (first | (with_reducible first | exact HB.out | apply hA_ | apply hN_ | apply hD_ | refine below_set ?_ GE218.out) | exact HB.out)))); have n1 := aM_ (blk_below (g := gb218) (o := .cells #[.int .i64 0, .int .i64 0, .int .i64 0, .int .i64 0, .int .i64 0] 32 (0, 0)) (by (with_reducible repeat (first | refine bN_ ?_ _ | refine bD_ ?_ | refine bA_ ?_ _)); exact BK218.out) hb); have n2 := aM_ (below_step (by repeat (first | (with_reducible first | exact HB.out | apply hA_ | apply hN_ | apply hD_ | refine below_set ?_ GE218.out) | exact HB.out)) hb); clear BK218; clear HB; have HO221 := n0; have BK218 := n1; have HB := n2; clear n0 n1 n2; (try clear ho0)) | ((with_reducible refine gate_dst (N := 18) rfl ?_); refine Kd.R_lit (Kd.int .i64) _ 3 ?hg (N := 18) ?hd (xs := ([] : List Int)) (inner := []) (ok := fun _ => True) (okp := fun _ => True) ?hr ?hp (fun _ hk => hk) trivial (Below.refl _ _) (Nat.le_refl _) (by simp) ?_; (case hd => rfl); (case hg => rfl); (case hr => first | (go_simp; done) | (go_simp; rfl)); (case hp => exact (Reps.none _ _)); intro v223 w6 ho7 hb hg_ hnew_; clear hg_ hnew_; (first | rw [← Ny222.out] at ho7 | (simp only [Int.reduceToNat] at ho7; rw [← Ny222.out] at ho7)); have n0 := aM_ (Kd.R_below (by (with_reducible repeat (first | apply rA_ | apply rN_ | apply rD_)); exact HO221.out) hb); have n1 := aM_ (Kd.R_lower ho7 (below_size (by repeat (first | (with_reducible first | exact HB.out | apply hA_ | apply hN_ | apply hD_ | refine below_set ?_ GE218.out) | exact HB.out)))); have n2 := aM_ (blk_below (g := gb218) (o := .cells #[.int .i64 0, .int .i64 0, .int .i64 0, .int .i64 0, .int .i64 0] 32 (0, 0)) (by (with_reducible repeat (first | refine bN_ ?_ _ | refine bD_ ?_ | refine bA_ ?_ _)); exact BK218.out) hb); have n3 := aM_ (below_step (by repeat (first | (with_reducible first | exact HB.out | apply hA_ | apply hN_ | apply hD_ | refine below_set ?_ GE218.out) | exact HB.out)) hb); clear HO221; clear BK218; clear HB; have HO221 := n0; have HO224 := n1; have BK218 := n2; have HB := n3; clear n0 n1 n2 n3; clear hb ho7; obtain ⟨Ao9, co9, eo9⟩ := Kd.R_slice HO221.out; subst eo9; have q8 : (1 : Int) ≤ ((t219.length : Int) : Int) := of_decide_eq_true (by first | (with_reducible assumption) | assumption); obtain ⟨i08, hi08, _, hsz8, _⟩ := info_parts info9; have hroom8 : t219.length ≤ co9 := (Kd.R_reads' HO221.out).2.1; have hC8 : Kd.C Kd.string _ Ao9 t219.length t219 := (Kd.R_reads' HO221.out).2.2; have hcut8 := cut_from (P := Tryd.prog) 93 9 .i64 Tryd.underlying93 hi08 1 hsz8 Ao9 t219.length co9 1 (by omega) q8; have hr8 := Kd.C_drop (m := (1 : Int).toNat) (c := co9) hC8 (by omega) hroom8; obtain ⟨A8, hA8⟩ : ∃ A1, A1 = (if co9 = (1 : Int).toNat then Ao9 else (Ao9 : Option Addr).map (·.add ((1 : Int).toNat * 1))) := ⟨_, rfl⟩; obtain ⟨c8, hc8⟩ : ∃ c1, c1 = co9 - (1 : Int).toNat := ⟨_, rfl⟩; have hy8 : y225.length = t219.length - (1 : Int).toNat := (by rw [Ny225.out, List.length_drop] <;> omega); rw [show (t219).drop (1 : Int).toNat = y225 from Ny225.out.symm] at hr8; replace hr8 : Kd.C Kd.string _ A8 y225.length y225 := (by rw [hA8]; exact hr8); rw [← hy8, ← hA8, ← hc8] at hcut8; have HR228 := aM_ hr8; have HC228 := aM_ (show y225.length ≤ c8 from by rw [hy8, hc8]; exact Nat.sub_le_sub_right hroom8 _); clear hr8 hC8 hroom8 hi08 hsz8 hc8; have KY8 := aM_ hy8; have KA8 := aM_ hA8; clear hy8 hA8; have KL8 := aM_ (show 1 ≤ t219.length from by omega); replace q8 := eq_true q8))
  repeat (go_quiet (first | ((with_reducible refine gate_dst (N := 2) rfl ?_); refine box_event ?hg (N := 2) ?hd (cs := #[.int .i64 0, .int .i64 0, .int .i64 0, .int .i64 0, .int .i64 0]) (t := 32) ?hr ?_; (case hd => rfl); (case hg => rfl); (case hr => first | (go_simp; done) | (go_simp; rfl)); intro gb218 hg w4 hbox hb; have n0 := aM_ (below_step (by repeat (first | (with_reducible first | exact HB.out | apply hA_ | apply hN_ | apply hD_) | exact HB.out)) hb); have n1 := aM_ (hbox); have n2 := aM_ ((by rw [hg]; exact (below_size (by repeat (first | (with_reducible first | exact HB.out | apply hA_ | apply hN_ | apply hD_) | exact HB.out))) : w.heap.size ≤ gb218)); have n3 := aM_ ((by rw [hg]; exact (below_size (by repeat (first | (with_reducible first | exact HB.out | apply hA_ | apply hN_ | apply hD_) | exact HB.out))) : w.heap.size ≤ gb218)); clear HB; have HB := n0; have BK218 := n1; have GW218 := n2; have GE218 := n3; clear n0 n1 n2 n3; clear hb hbox hg) | (go_at_call 101; (with_reducible refine (strings_Split.calls a0 (⟨#[32]⟩ : ByteArray) t219 _ A2.out ?sT).mono ?_); (case sT => first | with_reducible exact hT | exact TabT.Laid.below hT (by repeat (first | (with_reducible first | exact HB.out | apply hA_ | apply hN_ | apply hD_ | refine below_set ?_ GE218.out | refine below_set ?_ GE250.out) | exact HB.out))); rintro e w5 ⟨v220, rfl, ho0, hb⟩; have n0 := aM_ (Kd.R_lower ho0 (below_size (by repeat (first | (with_reducible first | exact HB.out | apply hA_ | apply hN_ | apply hD_ | refine below_set ?_ GE218.out) | exact HB.out)))); have n1 := aM_ (blk_below (g := gb218) (o := .cells #[.int .i64 0, .int .i64 0, .int .i64 0, .int .i64 0, .int .i64 0] 32 (0, 0)) (by (with_reducible repeat (first | refine bN_ ?_ _ | refine bD_ ?_ | refine bA_ ?_ _)); exact BK218.out) hb); have n2 := aM_ (below_step (by repeat (first | (with_reducible first | exact HB.out | apply hA_ | apply hN_ | apply hD_ | refine below_set ?_ GE218.out) | exact HB.out)) hb); clear BK218; clear HB; have HO221 := n0; have BK218 := n1; have HB := n2; clear n0 n1 n2; (try clear ho0)) | ((with_reducible refine gate_dst (N := 18) rfl ?_); refine Kd.R_lit (Kd.int .i64) _ 3 ?hg (N := 18) ?hd (xs := ([] : List Int)) (inner := []) (ok := fun _ => True) (okp := fun _ => True) ?hr ?hp (fun _ hk => hk) trivial (Below.refl _ _) (Nat.le_refl _) (by simp) ?_; (case hd => rfl); (case hg => rfl); (case hr => first | (go_simp; done) | (go_simp; rfl)); (case hp => exact (Reps.none _ _)); intro v223 w6 ho7 hb hg_ hnew_; clear hg_ hnew_; (first | rw [← Ny222.out] at ho7 | (simp only [Int.reduceToNat] at ho7; rw [← Ny222.out] at ho7)); have n0 := aM_ (Kd.R_below (by (with_reducible repeat (first | apply rA_ | apply rN_ | apply rD_)); exact HO221.out) hb); have n1 := aM_ (Kd.R_lower ho7 (below_size (by repeat (first | (with_reducible first | exact HB.out | apply hA_ | apply hN_ | apply hD_ | refine below_set ?_ GE218.out) | exact HB.out)))); have n2 := aM_ (blk_below (g := gb218) (o := .cells #[.int .i64 0, .int .i64 0, .int .i64 0, .int .i64 0, .int .i64 0] 32 (0, 0)) (by (with_reducible repeat (first | refine bN_ ?_ _ | refine bD_ ?_ | refine bA_ ?_ _)); exact BK218.out) hb); have n3 := aM_ (below_step (by repeat (first | (with_reducible first | exact HB.out | apply hA_ | apply hN_ | apply hD_ | refine below_set ?_ GE218.out) | exact HB.out)) hb); clear HO221; clear BK218; clear HB; have HO221 := n0; have HO224 := n1; have BK218 := n2; have HB := n3; clear n0 n1 n2 n3; clear hb ho7; obtain ⟨Ao9, co9, eo9⟩ := Kd.R_slice HO221.out; subst eo9; have q8 : (1 : Int) ≤ ((t219.length : Int) : Int) := of_decide_eq_true (by first | (with_reducible assumption) | assumption); obtain ⟨i08, hi08, _, hsz8, _⟩ := info_parts info9; have hroom8 : t219.length ≤ co9 := (Kd.R_reads' HO221.out).2.1; have hC8 : Kd.C Kd.string _ Ao9 t219.length t219 := (Kd.R_reads' HO221.out).2.2; have hcut8 := cut_from (P := Tryd.prog) 93 9 .i64 Tryd.underlying93 hi08 1 hsz8 Ao9 t219.length co9 1 (by omega) q8; have hr8 := Kd.C_drop (m := (1 : Int).toNat) (c := co9) hC8 (by omega) hroom8; obtain ⟨A8, hA8⟩ : ∃ A1, A1 = (if co9 = (1 : Int).toNat then Ao9 else (Ao9 : Option Addr).map (·.add ((1 : Int).toNat * 1))) := ⟨_, rfl⟩; obtain ⟨c8, hc8⟩ : ∃ c1, c1 = co9 - (1 : Int).toNat := ⟨_, rfl⟩; have hy8 : y225.length = t219.length - (1 : Int).toNat := (by rw [Ny225.out, List.length_drop] <;> omega); rw [show (t219).drop (1 : Int).toNat = y225 from Ny225.out.symm] at hr8; replace hr8 : Kd.C Kd.string _ A8 y225.length y225 := (by rw [hA8]; exact hr8); rw [← hy8, ← hA8, ← hc8] at hcut8; have HR228 := aM_ hr8; have HC228 := aM_ (show y225.length ≤ c8 from by rw [hy8, hc8]; exact Nat.sub_le_sub_right hroom8 _); clear hr8 hC8 hroom8 hi08 hsz8 hc8; have KY8 := aM_ hy8; have KA8 := aM_ hA8; clear hy8 hA8; have KL8 := aM_ (show 1 ≤ t219.length from by omega); replace q8 := eq_true q8)); try go_wp2_with (first | ((with_reducible refine gate_dst (N := 2) rfl ?_); refine box_event ?hg (N := 2) ?hd (cs := #[.int .i64 0, .int .i64 0, .int .i64 0, .int .i64 0, .int .i64 0]) (t := 32) ?hr ?_; (case hd => rfl); (case hg => rfl); (case hr => first | (go_simp; done) | (go_simp; rfl)); intro gb218 hg w4 hbox hb; have n0 := aM_ (below_step (by repeat (first | (with_reducible first | exact HB.out | apply hA_ | apply hN_ | apply hD_) | exact HB.out)) hb); have n1 := aM_ (hbox); have n2 := aM_ ((by rw [hg]; exact (below_size (by repeat (first | (with_reducible first | exact HB.out | apply hA_ | apply hN_ | apply hD_) | exact HB.out))) : w.heap.size ≤ gb218)); have n3 := aM_ ((by rw [hg]; exact (below_size (by repeat (first | (with_reducible first | exact HB.out | apply hA_ | apply hN_ | apply hD_) | exact HB.out))) : w.heap.size ≤ gb218)); clear HB; have HB := n0; have BK218 := n1; have GW218 := n2; have GE218 := n3; clear n0 n1 n2 n3; clear hb hbox hg) | (go_at_call 101; (with_reducible refine (strings_Split.calls a0 (⟨#[32]⟩ : ByteArray) t219 _ A2.out ?sT).mono ?_); (case sT => first | with_reducible exact hT | exact TabT.Laid.below hT (by repeat (first | (with_reducible first | exact HB.out | apply hA_ | apply hN_ | apply hD_ | refine below_set ?_ GE218.out | refine below_set ?_ GE250.out) | exact HB.out))); rintro e w5 ⟨v220, rfl, ho0, hb⟩; have n0 := aM_ (Kd.R_lower ho0 (below_size (by repeat (first | (with_reducible first | exact HB.out | apply hA_ | apply hN_ | apply hD_ | refine below_set ?_ GE218.out) | exact HB.out)))); have n1 := aM_ (blk_below (g := gb218) (o := .cells #[.int .i64 0, .int .i64 0, .int .i64 0, .int .i64 0, .int .i64 0] 32 (0, 0)) (by (with_reducible repeat (first | refine bN_ ?_ _ | refine bD_ ?_ | refine bA_ ?_ _)); exact BK218.out) hb); have n2 := aM_ (below_step (by repeat (first | (with_reducible first | exact HB.out | apply hA_ | apply hN_ | apply hD_ | refine below_set ?_ GE218.out) | exact HB.out)) hb); clear BK218; clear HB; have HO221 := n0; have BK218 := n1; have HB := n2; clear n0 n1 n2; (try clear ho0)) | ((with_reducible refine gate_dst (N := 18) rfl ?_); refine Kd.R_lit (Kd.int .i64) _ 3 ?hg (N := 18) ?hd (xs := ([] : List Int)) (inner := []) (ok := fun _ => True) (okp := fun _ => True) ?hr ?hp (fun _ hk => hk) trivial (Below.refl _ _) (Nat.le_refl _) (by simp) ?_; (case hd => rfl); (case hg => rfl); (case hr => first | (go_simp; done) | (go_simp; rfl)); (case hp => exact (Reps.none _ _)); intro v223 w6 ho7 hb hg_ hnew_; clear hg_ hnew_; (first | rw [← Ny222.out] at ho7 | (simp only [Int.reduceToNat] at ho7; rw [← Ny222.out] at ho7)); have n0 := aM_ (Kd.R_below (by (with_reducible repeat (first | apply rA_ | apply rN_ | apply rD_)); exact HO221.out) hb); have n1 := aM_ (Kd.R_lower ho7 (below_size (by repeat (first | (with_reducible first | exact HB.out | apply hA_ | apply hN_ | apply hD_ | refine below_set ?_ GE218.out) | exact HB.out)))); have n2 := aM_ (blk_below (g := gb218) (o := .cells #[.int .i64 0, .int .i64 0, .int .i64 0, .int .i64 0, .int .i64 0] 32 (0, 0)) (by (with_reducible repeat (first | refine bN_ ?_ _ | refine bD_ ?_ | refine bA_ ?_ _)); exact BK218.out) hb); have n3 := aM_ (below_step (by repeat (first | (with_reducible first | exact HB.out | apply hA_ | apply hN_ | apply hD_ | refine below_set ?_ GE218.out) | exact HB.out)) hb); clear HO221; clear BK218; clear HB; have HO221 := n0; have HO224 := n1; have BK218 := n2; have HB := n3; clear n0 n1 n2 n3; clear hb ho7; obtain ⟨Ao9, co9, eo9⟩ := Kd.R_slice HO221.out; subst eo9; have q8 : (1 : Int) ≤ ((t219.length : Int) : Int) := of_decide_eq_true (by first | (with_reducible assumption) | assumption); obtain ⟨i08, hi08, _, hsz8, _⟩ := info_parts info9; have hroom8 : t219.length ≤ co9 := (Kd.R_reads' HO221.out).2.1; have hC8 : Kd.C Kd.string _ Ao9 t219.length t219 := (Kd.R_reads' HO221.out).2.2; have hcut8 := cut_from (P := Tryd.prog) 93 9 .i64 Tryd.underlying93 hi08 1 hsz8 Ao9 t219.length co9 1 (by omega) q8; have hr8 := Kd.C_drop (m := (1 : Int).toNat) (c := co9) hC8 (by omega) hroom8; obtain ⟨A8, hA8⟩ : ∃ A1, A1 = (if co9 = (1 : Int).toNat then Ao9 else (Ao9 : Option Addr).map (·.add ((1 : Int).toNat * 1))) := ⟨_, rfl⟩; obtain ⟨c8, hc8⟩ : ∃ c1, c1 = co9 - (1 : Int).toNat := ⟨_, rfl⟩; have hy8 : y225.length = t219.length - (1 : Int).toNat := (by rw [Ny225.out, List.length_drop] <;> omega); rw [show (t219).drop (1 : Int).toNat = y225 from Ny225.out.symm] at hr8; replace hr8 : Kd.C Kd.string _ A8 y225.length y225 := (by rw [hA8]; exact hr8); rw [← hy8, ← hA8, ← hc8] at hcut8; have HR228 := aM_ hr8; have HC228 := aM_ (show y225.length ≤ c8 from by rw [hy8, hc8]; exact Nat.sub_le_sub_right hroom8 _); clear hr8 hC8 hroom8 hi08 hsz8 hc8; have KY8 := aM_ hy8; have KA8 := aM_ hA8; clear hy8 hA8; have KL8 := aM_ (show 1 ≤ t219.length from by omega); replace q8 := eq_true q8)))
  go_loopg [5, 22] k (fun kq v5 v22 w' => ∃ (x5_1 : List Int) (x22_1 : Int) (x2190_1 : Int) (x2191_1 : Int) (x2192_1 : Int) (x2193_1 : Int) (x2194_1 : Int), v22 = .int .i64 x22_1 ∧ Aside0 (impl_InsRead.l0 kq a0 t219 x5_1 y225 (y225.length : Int) x22_1 = some (r1, r2, r3, r4, r5, r6)) ∧ Aside0 (kq ≤ k) ∧ Aside0 (Kd.R Kd.string 9 w' w.heap.size (fun _ => True) (.slice Ao9 t219.length co9) t219) ∧ Aside0 (Kd.R (Kd.int .i64) 3 w' w.heap.size (fun _ => True) v5 x5_1) ∧ Aside0 (w'.heap[gb218]? = some (.cells #[.int .i64 x2190_1, .int .i64 x2191_1, .int .i64 x2192_1, .int .i64 x2193_1, .int .i64 x2194_1] 32 (0, 0))) ∧ Aside0 (Below w.heap.size w w'))
  case atStart => exact ⟨(y222), (0), (0), (0), (0), (0), (0), (by first | rfl | (simp; done) | (simp [*]; done)), H', ⟨Nat.le_refl _⟩, ⟨by (with_reducible repeat (first | apply rA_ | apply rN_ | apply rD_)); exact HO221.out⟩, ⟨by (with_reducible repeat (first | apply rA_ | apply rN_ | apply rD_)); exact HO224.out⟩, ⟨by (with_reducible repeat (first | refine bN_ ?_ _ | refine bD_ ?_ | refine bA_ ?_ _)); exact BK218.out⟩, ⟨by repeat (first | (with_reducible first | exact HB.out | apply hA_ | apply hN_ | apply hD_ | refine below_set ?_ GE218.out) | exact HB.out)⟩⟩
  case round =>
   clear H'
   try clear c1
   try clear p2
   try clear c3
   try clear c3b0
   try clear c3b1
   try clear c5
   try clear c8
   try clear q8
   try clear q8
   obtain ⟨x5_1, x22_1, x2190_1, x2191_1, x2192_1, x2193_1, x2194_1, rfl, HA, HK1, HO_4, HO_5, BK218, HB⟩ := hrel
   cases gk with
   | zero => exact absurd HA.out (by simp [impl_InsRead.l0])
   | succ k1 =>
    have H := HA.out
    clear HA
    simp only [impl_InsRead.l0] at H
    by_cases c10 : x22_1 < (y225.length : Int)
    ·rw [if_pos c10] at H
     have c10b0 : decide (x22_1 < (y225.length : Int)) = true := decide_eq_true c10
     clear c10
     by_cases c11 : 0 ≤ x22_1
     ·rw [if_pos c11] at H
      have c11b0 : decide (0 ≤ x22_1) = true := decide_eq_true c11
      clear c11
      by_cases c12 : x22_1 < (y225.length : Int)
      ·rw [if_pos c12] at H
       have c12b0 : decide (x22_1 < (y225.length : Int)) = true := decide_eq_true c12
       clear c12
       replace H := Option.bind_eq_some_iff.mp H
       obtain ⟨⟨t230, t231⟩, A130, H⟩ := H
       replace H : (if t231.isNone = true then (if x5_1.length < 17592186044416 then (impl_InsRead.l0 k1 a0 t219 (x5_1 ++ [t230]) y225 (y225.length : Int) (wrap64 (x22_1 + 1))) else (none)) else (some (0, 0, 0, 0, 0, false))) = some (r1, r2, r3, r4, r5, r6) := H
       have A13 := aM_ A130
       clear A130
       rcases t231 with _ | q232
       ·have H1 : (if x5_1.length < 17592186044416 then (impl_InsRead.l0 k1 a0 t219 (x5_1 ++ [t230]) y225 (y225.length : Int) (wrap64 (x22_1 + 1))) else (none)) = some (r1, r2, r3, r4, r5, r6) := by rw [if_pos (show (none : Option Int).isNone = true by rfl)] at H; exact H
        clear H
        have H := H1
        clear H1
        try simp only [errW_none, errW_some]
        by_cases c14 : x5_1.length < 17592186044416
        ·rw [if_pos c14] at H
         have LMc14 := aM_ c14
         clear c14
         obtain ⟨y233, hy233⟩ : ∃ y_ : List Int, y_ = (x5_1 ++ [t230]) := ⟨_, rfl⟩
         replace H : (impl_InsRead.l0 k1 a0 t219 y233 y225 (y225.length : Int) (wrap64 (x22_1 + 1))) = some (r1, r2, r3, r4, r5, r6) := by first | (rw [hy233]; with_reducible exact H) | (have H2_ := (Option.bind_some _ _).symm.trans H; rw [hy233]; with_reducible exact H2_) | (have H2_ := (Option.bind_some _ _).symm.trans H; with_reducible exact H2_) | with_reducible exact H | (rw [hy233]; exact H) | exact H
         have Ny233 := aM_ hy233
         clear hy233
         have H' := aM_ H
         clear H
         have p229 : 0 ≤ (x22_1 : Int) := of_decide_eq_true (by first | (with_reducible assumption) | assumption)
         have q229 : x22_1 < (y225.length : Int) := of_decide_eq_true (by first | (with_reducible assumption) | assumption)
         have HR228 := aM_ (by have hC_ := (Kd.R_reads' HO_4.out).2.2; have hq_ := (Kd.R_reads' HO_4.out).2.1; have hy_ := KY8.out; have hr_ := Kd.C_drop (m := (1 : Int).toNat) (c := co9) hC_ (by omega) hq_; rw [show (t219).drop (1 : Int).toNat = y225 from Ny225.out.symm] at hr_; exact (show Kd.C Kd.string _ A8 y225.length y225 from (by rw [KA8.out]; exact hr_)))
         obtain ⟨ad229, e229, hx229_0⟩ := Kd.at_string HR228.out x22_1 p229 q229
         cases e229
         replace p229 := eq_true p229
         replace q229 := eq_true q229
         go_wp2_with (first | (go_at_call 102; (with_reducible refine (strconv_Atoi_102.calls (rdOf ByteArray.empty y225 x22_1) t230 none _ A13.out ?sT).mono ?_); (case sT => first | with_reducible exact hT | exact TabT.Laid.below hT (by repeat (first | (with_reducible first | exact HB.out | apply hA_ | apply hN_ | apply hD_ | refine below_set ?_ GE218.out | refine below_set ?_ GE250.out) | exact HB.out))); rintro e w15 ⟨ev_, rfl, he_, hb⟩; obtain rfl : ev_ = .nilIface := (by unfold TabT.ErrIs at he_; rw [if_pos (show (none : Option Int).isNone = true from rfl)] at he_; exact he_); have n0 := aM_ (Kd.R_below (by (with_reducible repeat (first | apply rA_ | apply rN_ | apply rD_)); exact HO_4.out) hb); have n1 := aM_ (Kd.R_below (by (with_reducible repeat (first | apply rA_ | apply rN_ | apply rD_)); exact HO_5.out) hb); have n2 := aM_ (blk_below (g := gb218) (o := .cells #[.int .i64 x2190_1, .int .i64 x2191_1, .int .i64 x2192_1, .int .i64 x2193_1, .int .i64 x2194_1] 32 (0, 0)) (by (with_reducible repeat (first | refine bN_ ?_ _ | refine bD_ ?_ | refine bA_ ?_ _)); exact BK218.out) hb); have n3 := aM_ (below_step (by repeat (first | (with_reducible first | exact HB.out | apply hA_ | apply hN_ | apply hD_ | refine below_set ?_ GE218.out) | exact HB.out)) hb); clear HO_4; clear HO_5; clear BK218; clear HB; have HO_4 := n0; have HO_5 := n1; have BK218 := n2; have HB := n3; clear n0 n1 n2 n3; (try simp only [errW_none, errW_some])) | ((with_reducible refine gate_builtin (b := .append) (xs := #[.tmp 34, .tmp 36]) rfl ?_); at_builtin; refine Kd.R_append (Kd.int .i64) (w0 := w) w.heap.size rfl (.tmp 34) (.tmp 36) 35 3 (.int .i64 0) 8 rfl Tryd.underlying35 info3 rfl (by decide) (by omega) u5 x5_1 t230 [.int .i64 t230] (fun _ => True) (fun _ => False) rfl rfl ?aP (fun _ hk => hk.elim) ?aF ?aO ?aB ?aS ?aL ?_; (case aP => exact rfl); (case aB => exact (by repeat (first | (with_reducible first | exact HB.out | apply hA_ | apply hN_ | apply hD_ | refine below_set ?_ GE218.out) | exact HB.out))); (case aF => exact (fun _ _ => trivial)); (case aO => exact (by (with_reducible repeat (first | apply rA_ | apply rN_ | apply rD_)); exact HO_5.out)); (case aS => exact (below_size (by repeat (first | (with_reducible first | exact HB.out | apply hA_ | apply hN_ | apply hD_ | refine below_set ?_ GE218.out) | exact HB.out)))); (case aL => have := LMc14.out; omega); intro v234 w16 ho hb hg hat; rw [← Ny233.out] at ho; have n0 := aM_ (Kd.R_over' (by (with_reducible repeat (first | apply rA_ | apply rN_ | apply rD_)); exact HO_4.out) (Kd.R_typed (by (with_reducible repeat (first | apply rA_ | apply rN_ | apply rD_)); exact HO_5.out)) (by decide) hg); have n1 := aM_ (blk_grown (g := gb218) (o := .cells #[.int .i64 x2190_1, .int .i64 x2191_1, .int .i64 x2192_1, .int .i64 x2193_1, .int .i64 x2194_1] 32 (0, 0)) (by (with_reducible repeat (first | refine bN_ ?_ _ | refine bD_ ?_ | refine bA_ ?_ _)); exact BK218.out) hg (Kd.R_ne HO_5.out BK218.out (by decide))); have n2 := aM_ (hb); have n3 := aM_ (ho); clear HO_4; clear BK218; clear HB; clear HO_5; have HO_4 := n0; have BK218 := n1; have HB := n2; have HO235 := n3; clear n0 n1 n2 n3; clear ho hb hg hat))
         repeat (go_quiet (first | (go_at_call 102; (with_reducible refine (strconv_Atoi_102.calls (rdOf ByteArray.empty y225 x22_1) t230 none _ A13.out ?sT).mono ?_); (case sT => first | with_reducible exact hT | exact TabT.Laid.below hT (by repeat (first | (with_reducible first | exact HB.out | apply hA_ | apply hN_ | apply hD_ | refine below_set ?_ GE218.out | refine below_set ?_ GE250.out) | exact HB.out))); rintro e w15 ⟨ev_, rfl, he_, hb⟩; obtain rfl : ev_ = .nilIface := (by unfold TabT.ErrIs at he_; rw [if_pos (show (none : Option Int).isNone = true from rfl)] at he_; exact he_); have n0 := aM_ (Kd.R_below (by (with_reducible repeat (first | apply rA_ | apply rN_ | apply rD_)); exact HO_4.out) hb); have n1 := aM_ (Kd.R_below (by (with_reducible repeat (first | apply rA_ | apply rN_ | apply rD_)); exact HO_5.out) hb); have n2 := aM_ (blk_below (g := gb218) (o := .cells #[.int .i64 x2190_1, .int .i64 x2191_1, .int .i64 x2192_1, .int .i64 x2193_1, .int .i64 x2194_1] 32 (0, 0)) (by (with_reducible repeat (first | refine bN_ ?_ _ | refine bD_ ?_ | refine bA_ ?_ _)); exact BK218.out) hb); have n3 := aM_ (below_step (by repeat (first | (with_reducible first | exact HB.out | apply hA_ | apply hN_ | apply hD_ | refine below_set ?_ GE218.out) | exact HB.out)) hb); clear HO_4; clear HO_5; clear BK218; clear HB; have HO_4 := n0; have HO_5 := n1; have BK218 := n2; have HB := n3; clear n0 n1 n2 n3; (try simp only [errW_none, errW_some])) | ((with_reducible refine gate_builtin (b := .append) (xs := #[.tmp 34, .tmp 36]) rfl ?_); at_builtin; refine Kd.R_append (Kd.int .i64) (w0 := w) w.heap.size rfl (.tmp 34) (.tmp 36) 35 3 (.int .i64 0) 8 rfl Tryd.underlying35 info3 rfl (by decide) (by omega) u5 x5_1 t230 [.int .i64 t230] (fun _ => True) (fun _ => False) rfl rfl ?aP (fun _ hk => hk.elim) ?aF ?aO ?aB ?aS ?aL ?_; (case aP => exact rfl); (case aB => exact (by repeat (first | (with_reducible first | exact HB.out | apply hA_ | apply hN_ | apply hD_ | refine below_set ?_ GE218.out) | exact HB.out))); (case aF => exact (fun _ _ => trivial)); (case aO => exact (by (with_reducible repeat (first | apply rA_ | apply rN_ | apply rD_)); exact HO_5.out)); (case aS => exact (below_size (by repeat (first | (with_reducible first | exact HB.out | apply hA_ | apply hN_ | apply hD_ | refine below_set ?_ GE218.out) | exact HB.out)))); (case aL => have := LMc14.out; omega); intro v234 w16 ho hb hg hat; rw [← Ny233.out] at ho; have n0 := aM_ (Kd.R_over' (by (with_reducible repeat (first | apply rA_ | apply rN_ | apply rD_)); exact HO_4.out) (Kd.R_typed (by (with_reducible repeat (first | apply rA_ | apply rN_ | apply rD_)); exact HO_5.out)) (by decide) hg); have n1 := aM_ (blk_grown (g := gb218) (o := .cells #[.int .i64 x2190_1, .int .i64 x2191_1, .int .i64 x2192_1, .int .i64 x2193_1, .int .i64 x2194_1] 32 (0, 0)) (by (with_reducible repeat (first | refine bN_ ?_ _ | refine bD_ ?_ | refine bA_ ?_ _)); exact BK218.out) hg (Kd.R_ne HO_5.out BK218.out (by decide))); have n2 := aM_ (hb); have n3 := aM_ (ho); clear HO_4; clear BK218; clear HB; clear HO_5; have HO_4 := n0; have BK218 := n1; have HB := n2; have HO235 := n3; clear n0 n1 n2 n3; clear ho hb hg hat)); try go_wp2_with (first | (go_at_call 102; (with_reducible refine (strconv_Atoi_102.calls (rdOf ByteArray.empty y225 x22_1) t230 none _ A13.out ?sT).mono ?_); (case sT => first | with_reducible exact hT | exact TabT.Laid.below hT (by repeat (first | (with_reducible first | exact HB.out | apply hA_ | apply hN_ | apply hD_ | refine below_set ?_ GE218.out | refine below_set ?_ GE250.out) | exact HB.out))); rintro e w15 ⟨ev_, rfl, he_, hb⟩; obtain rfl : ev_ = .nilIface := (by unfold TabT.ErrIs at he_; rw [if_pos (show (none : Option Int).isNone = true from rfl)] at he_; exact he_); have n0 := aM_ (Kd.R_below (by (with_reducible repeat (first | apply rA_ | apply rN_ | apply rD_)); exact HO_4.out) hb); have n1 := aM_ (Kd.R_below (by (with_reducible repeat (first | apply rA_ | apply rN_ | apply rD_)); exact HO_5.out) hb); have n2 := aM_ (blk_below (g := gb218) (o := .cells #[.int .i64 x2190_1, .int .i64 x2191_1, .int .i64 x2192_1, .int .i64 x2193_1, .int .i64 x2194_1] 32 (0, 0)) (by (with_reducible repeat (first | refine bN_ ?_ _ | refine bD_ ?_ | refine bA_ ?_ _)); exact BK218.out) hb); have n3 := aM_ (below_step (by repeat (first | (with_reducible first | exact HB.out | apply hA_ | apply hN_ | apply hD_ | refine below_set ?_ GE218.out) | exact HB.out)) hb); clear HO_4; clear HO_5; clear BK218; clear HB; have HO_4 := n0; have HO_5 := n1; have BK218 := n2; have HB := n3; clear n0 n1 n2 n3; (try simp only [errW_none, errW_some])) | ((with_reducible refine gate_builtin (b := .append) (xs := #[.tmp 34, .tmp 36]) rfl ?_); at_builtin; refine Kd.R_append (Kd.int .i64) (w0 := w) w.heap.size rfl (.tmp 34) (.tmp 36) 35 3 (.int .i64 0) 8 rfl Tryd.underlying35 info3 rfl (by decide) (by omega) u5 x5_1 t230 [.int .i64 t230] (fun _ => True) (fun _ => False) rfl rfl ?aP (fun _ hk => hk.elim) ?aF ?aO ?aB ?aS ?aL ?_; (case aP => exact rfl); (case aB => exact (by repeat (first | (with_reducible first | exact HB.out | apply hA_ | apply hN_ | apply hD_ | refine below_set ?_ GE218.out) | exact HB.out))); (case aF => exact (fun _ _ => trivial)); (case aO => exact (by (with_reducible repeat (first | apply rA_ | apply rN_ | apply rD_)); exact HO_5.out)); (case aS => exact (below_size (by repeat (first | (with_reducible first | exact HB.out | apply hA_ | apply hN_ | apply hD_ | refine below_set ?_ GE218.out) | exact HB.out)))); (case aL => have := LMc14.out; omega); intro v234 w16 ho hb hg hat; rw [← Ny233.out] at ho; have n0 := aM_ (Kd.R_over' (by (with_reducible repeat (first | apply rA_ | apply rN_ | apply rD_)); exact HO_4.out) (Kd.R_typed (by (with_reducible repeat (first | apply rA_ | apply rN_ | apply rD_)); exact HO_5.out)) (by decide) hg); have n1 := aM_ (blk_grown (g := gb218) (o := .cells #[.int .i64 x2190_1, .int .i64 x2191_1, .int .i64 x2192_1, .int .i64 x2193_1, .int .i64 x2194_1] 32 (0, 0)) (by (with_reducible repeat (first | refine bN_ ?_ _ | refine bD_ ?_ | refine bA_ ?_ _)); exact BK218.out) hg (Kd.R_ne HO_5.out BK218.out (by decide))); have n2 := aM_ (hb); have n3 := aM_ (ho); clear HO_4; clear BK218; clear HB; clear HO_5; have HO_4 := n0; have BK218 := n1; have HB := n2; have HO235 := n3; clear n0 n1 n2 n3; clear ho hb hg hat)))
         go_roundg k1
         case measure => have := HK1.out; omega
         case rel => exact ⟨(y233), (wrap64 (x22_1 + 1)), (x2190_1), (x2191_1), (x2192_1), (x2193_1), (x2194_1), (by first | rfl | (simp; done) | (simp [*]; done)), H', ⟨by have := HK1.out; omega⟩, ⟨by (with_reducible repeat (first | apply rA_ | apply rN_ | apply rD_)); exact HO_4.out⟩, ⟨by (with_reducible repeat (first | apply rA_ | apply rN_ | apply rD_)); exact HO235.out⟩, ⟨by (with_reducible repeat (first | refine bN_ ?_ _ | refine bD_ ?_ | refine bA_ ?_ _)); exact BK218.out⟩, ⟨by repeat (first | (with_reducible first | exact HB.out | apply hA_ | apply hN_ | apply hD_ | refine below_set ?_ GE218.out) | exact HB.out)⟩⟩
        ·rw [if_neg c14] at H
         exact absurd H (by simp)
       ·have H1 : (some (0, 0, 0, 0, 0, false)) = some (r1, r2, r3, r4, r5, r6) := by rw [if_neg (show ¬ (some q232).isNone = true by simp)] at H; exact H
        clear H
        have H := H1
        clear H1
        try simp only [errW_none, errW_some]
        simp only [Option.some.injEq, Prod.mk.injEq] at H
        obtain ⟨rfl, rfl, rfl, rfl, rfl, rfl⟩ := H
        have p229 : 0 ≤ (x22_1 : Int) := of_decide_eq_true (by first | (with_reducible assumption) | assumption)
        have q229 : x22_1 < (y225.length : Int) := of_decide_eq_true (by first | (with_reducible assumption) | assumption)
        have HR228 := aM_ (by have hC_ := (Kd.R_reads' HO_4.out).2.2; have hq_ := (Kd.R_reads' HO_4.out).2.1; have hy_ := KY8.out; have hr_ := Kd.C_drop (m := (1 : Int).toNat) (c := co9) hC_ (by omega) hq_; rw [show (t219).drop (1 : Int).toNat = y225 from Ny225.out.symm] at hr_; exact (show Kd.C Kd.string _ A8 y225.length y225 from (by rw [KA8.out]; exact hr_)))
        obtain ⟨ad229, e229, hx229_0⟩ := Kd.at_string HR228.out x22_1 p229 q229
        cases e229
        replace p229 := eq_true p229
        replace q229 := eq_true q229
        go_wp2_with (first | (go_at_call 102; (with_reducible refine (strconv_Atoi_102.calls (rdOf ByteArray.empty y225 x22_1) t230 (some q232) _ A13.out ?sT).mono ?_); (case sT => first | with_reducible exact hT | exact TabT.Laid.below hT (by repeat (first | (with_reducible first | exact HB.out | apply hA_ | apply hN_ | apply hD_ | refine below_set ?_ GE218.out | refine below_set ?_ GE250.out) | exact HB.out))); rintro e w17 ⟨ev_, rfl, he_, hb⟩; obtain ⟨te_, pe_, rfl⟩ : ∃ te_ pe_, ev_ = .iface te_ pe_ := (by unfold TabT.ErrIs at he_; rw [if_neg (show ¬ (some q232 : Option Int).isNone = true by simp)] at he_; exact he_); have n0 := aM_ (Kd.R_below (by (with_reducible repeat (first | apply rA_ | apply rN_ | apply rD_)); exact HO_4.out) hb); have n1 := aM_ (Kd.R_below (by (with_reducible repeat (first | apply rA_ | apply rN_ | apply rD_)); exact HO_5.out) hb); have n2 := aM_ (blk_below (g := gb218) (o := .cells #[.int .i64 x2190_1, .int .i64 x2191_1, .int .i64 x2192_1, .int .i64 x2193_1, .int .i64 x2194_1] 32 (0, 0)) (by (with_reducible repeat (first | refine bN_ ?_ _ | refine bD_ ?_ | refine bA_ ?_ _)); exact BK218.out) hb); have n3 := aM_ (below_step (by repeat (first | (with_reducible first | exact HB.out | apply hA_ | apply hN_ | apply hD_ | refine below_set ?_ GE218.out) | exact HB.out)) hb); clear HO_4; clear HO_5; clear BK218; clear HB; have HO_4 := n0; have HO_5 := n1; have BK218 := n2; have HB := n3; clear n0 n1 n2 n3; (try simp only [errW_none, errW_some]); have hcz18_0 : w17.cell? ⟨gb218, 0, none⟩ = some (.int .i64 x2190_1) := (blk_cell BK218.out 0).trans rfl; have hcz18_1 : w17.cell? ⟨gb218, 1, none⟩ = some (.int .i64 x2191_1) := (blk_cell BK218.out 1).trans rfl; have hcz18_2 : w17.cell? ⟨gb218, 2, none⟩ = some (.int .i64 x2192_1) := (blk_cell BK218.out 2).trans rfl; have hcz18_3 : w17.cell? ⟨gb218, 3, none⟩ = some (.int .i64 x2193_1) := (blk_cell BK218.out 3).trans rfl; have hcz18_4 : w17.cell? ⟨gb218, 4, none⟩ = some (.int .i64 x2194_1) := (blk_cell BK218.out 4).trans rfl; have hfz18_0 := blk_frozen BK218.out 0; have hfz18_1 := blk_frozen BK218.out 1; have hfz18_2 := blk_frozen BK218.out 2; have hfz18_3 := blk_frozen BK218.out 3; have hfz18_4 := blk_frozen BK218.out 4))
        repeat (go_quiet (first | (go_at_call 102; (with_reducible refine (strconv_Atoi_102.calls (rdOf ByteArray.empty y225 x22_1) t230 (some q232) _ A13.out ?sT).mono ?_); (case sT => first | with_reducible exact hT | exact TabT.Laid.below hT (by repeat (first | (with_reducible first | exact HB.out | apply hA_ | apply hN_ | apply hD_ | refine below_set ?_ GE218.out | refine below_set ?_ GE250.out) | exact HB.out))); rintro e w17 ⟨ev_, rfl, he_, hb⟩; obtain ⟨te_, pe_, rfl⟩ : ∃ te_ pe_, ev_ = .iface te_ pe_ := (by unfold TabT.ErrIs at he_; rw [if_neg (show ¬ (some q232 : Option Int).isNone = true by simp)] at he_; exact he_); have n0 := aM_ (Kd.R_below (by (with_reducible repeat (first | apply rA_ | apply rN_ | apply rD_)); exact HO_4.out) hb); have n1 := aM_ (Kd.R_below (by (with_reducible repeat (first | apply rA_ | apply rN_ | apply rD_)); exact HO_5.out) hb); have n2 := aM_ (blk_below (g := gb218) (o := .cells #[.int .i64 x2190_1, .int .i64 x2191_1, .int .i64 x2192_1, .int .i64 x2193_1, .int .i64 x2194_1] 32 (0, 0)) (by (with_reducible repeat (first | refine bN_ ?_ _ | refine bD_ ?_ | refine bA_ ?_ _)); exact BK218.out) hb); have n3 := aM_ (below_step (by repeat (first | (with_reducible first | exact HB.out | apply hA_ | apply hN_ | apply hD_ | refine below_set ?_ GE218.out) | exact HB.out)) hb); clear HO_4; clear HO_5; clear BK218; clear HB; have HO_4 := n0; have HO_5 := n1; have BK218 := n2; have HB := n3; clear n0 n1 n2 n3; (try simp only [errW_none, errW_some]); have hcz18_0 : w17.cell? ⟨gb218, 0, none⟩ = some (.int .i64 x2190_1) := (blk_cell BK218.out 0).trans rfl; have hcz18_1 : w17.cell? ⟨gb218, 1, none⟩ = some (.int .i64 x2191_1) := (blk_cell BK218.out 1).trans rfl; have hcz18_2 : w17.cell? ⟨gb218, 2, none⟩ = some (.int .i64 x2192_1) := (blk_cell BK218.out 2).trans rfl; have hcz18_3 : w17.cell? ⟨gb218, 3, none⟩ = some (.int .i64 x2193_1) := (blk_cell BK218.out 3).trans rfl; have hcz18_4 : w17.cell? ⟨gb218, 4, none⟩ = some (.int .i64 x2194_1) := (blk_cell BK218.out 4).trans rfl; have hfz18_0 := blk_frozen BK218.out 0; have hfz18_1 := blk_frozen BK218.out 1; have hfz18_2 := blk_frozen BK218.out 2; have hfz18_3 := blk_frozen BK218.out 3; have hfz18_4 := blk_frozen BK218.out 4)); try go_wp2_with (first | (go_at_call 102; (with_reducible refine (strconv_Atoi_102.calls (rdOf ByteArray.empty y225 x22_1) t230 (some q232) _ A13.out ?sT).mono ?_); (case sT => first | with_reducible exact hT | exact TabT.Laid.below hT (by repeat (first | (with_reducible first | exact HB.out | apply hA_ | apply hN_ | apply hD_ | refine below_set ?_ GE218.out | refine below_set ?_ GE250.out) | exact HB.out))); rintro e w17 ⟨ev_, rfl, he_, hb⟩; obtain ⟨te_, pe_, rfl⟩ : ∃ te_ pe_, ev_ = .iface te_ pe_ := (by unfold TabT.ErrIs at he_; rw [if_neg (show ¬ (some q232 : Option Int).isNone = true by simp)] at he_; exact he_); have n0 := aM_ (Kd.R_below (by (with_reducible repeat (first | apply rA_ | apply rN_ | apply rD_)); exact HO_4.out) hb); have n1 := aM_ (Kd.R_below (by (with_reducible repeat (first | apply rA_ | apply rN_ | apply rD_)); exact HO_5.out) hb); have n2 := aM_ (blk_below (g := gb218) (o := .cells #[.int .i64 x2190_1, .int .i64 x2191_1, .int .i64 x2192_1, .int .i64 x2193_1, .int .i64 x2194_1] 32 (0, 0)) (by (with_reducible repeat (first | refine bN_ ?_ _ | refine bD_ ?_ | refine bA_ ?_ _)); exact BK218.out) hb); have n3 := aM_ (below_step (by repeat (first | (with_reducible first | exact HB.out | apply hA_ | apply hN_ | apply hD_ | refine below_set ?_ GE218.out) | exact HB.out)) hb); clear HO_4; clear HO_5; clear BK218; clear HB; have HO_4 := n0; have HO_5 := n1; have BK218 := n2; have HB := n3; clear n0 n1 n2 n3; (try simp only [errW_none, errW_some]); have hcz18_0 : w17.cell? ⟨gb218, 0, none⟩ = some (.int .i64 x2190_1) := (blk_cell BK218.out 0).trans rfl; have hcz18_1 : w17.cell? ⟨gb218, 1, none⟩ = some (.int .i64 x2191_1) := (blk_cell BK218.out 1).trans rfl; have hcz18_2 : w17.cell? ⟨gb218, 2, none⟩ = some (.int .i64 x2192_1) := (blk_cell BK218.out 2).trans rfl; have hcz18_3 : w17.cell? ⟨gb218, 3, none⟩ = some (.int .i64 x2193_1) := (blk_cell BK218.out 3).trans rfl; have hcz18_4 : w17.cell? ⟨gb218, 4, none⟩ = some (.int .i64 x2194_1) := (blk_cell BK218.out 4).trans rfl; have hfz18_0 := blk_frozen BK218.out 0; have hfz18_1 := blk_frozen BK218.out 1; have hfz18_2 := blk_frozen BK218.out 2; have hfz18_3 := blk_frozen BK218.out 3; have hfz18_4 := blk_frozen BK218.out 4)))
        refine bodyPost_ret (results_ct rfl _ _ gb218 32 #[.int .i64 0, .int .i64 0, .int .i64 0, .int .i64 0, .int .i64 0] (0, 0) _ rfl (by (with_reducible repeat (first | refine bN_ ?_ _ | refine bD_ ?_ | refine bA_ ?_ _)); refine blk_put (cs := #[.int .i64 0, .int .i64 0, .int .i64 0, .int .i64 0, .int .i64 x2194_1]) ?_ 4 _ rfl; (with_reducible repeat (first | refine bN_ ?_ _ | refine bD_ ?_ | refine bA_ ?_ _)); refine blk_put (cs := #[.int .i64 0, .int .i64 0, .int .i64 0, .int .i64 x2193_1, .int .i64 x2194_1]) ?_ 3 _ rfl; (with_reducible repeat (first | refine bN_ ?_ _ | refine bD_ ?_ | refine bA_ ?_ _)); refine blk_put (cs := #[.int .i64 0, .int .i64 0, .int .i64 x2192_1, .int .i64 x2193_1, .int .i64 x2194_1]) ?_ 2 _ rfl; (with_reducible repeat (first | refine bN_ ?_ _ | refine bD_ ?_ | refine bA_ ?_ _)); refine blk_put (cs := #[.int .i64 0, .int .i64 x2191_1, .int .i64 x2192_1, .int .i64 x2193_1, .int .i64 x2194_1]) ?_ 1 _ rfl; (with_reducible repeat (first | refine bN_ ?_ _ | refine bD_ ?_ | refine bA_ ?_ _)); refine blk_put (cs := #[.int .i64 x2190_1, .int .i64 x2191_1, .int .i64 x2192_1, .int .i64 x2193_1, .int .i64 x2194_1]) ?_ 0 _ rfl; (with_reducible repeat (first | refine bN_ ?_ _ | refine bD_ ?_ | refine bA_ ?_ _)); exact BK218.out) Tryd.underlying32 rfl (by kernel_rfl)) rfl ?_
        exact ⟨by first | rfl | (simp [errW_none, errW_some] <;> rfl) | (simp [*, errW_none, errW_some] <;> rfl), by repeat (first | (with_reducible first | exact HB.out | apply hA_ | apply hN_ | apply hD_ | refine below_set ?_ GE218.out) | exact HB.out)⟩
      ·rw [if_neg c12] at H
       exact absurd H (by simp)
     ·rw [if_neg c11] at H
      exact absurd H (by simp)
    ·rw [if_neg c10] at H
     have c10b0 : decide (x22_1 < (y225.length : Int)) = false := decide_eq_false c10
     clear c10
     replace H := Option.bind_eq_some_iff.mp H
     obtain ⟨t236, A190, H⟩ := H
     replace H : ((some (([0, 0, 0] : List Int) : List Int)).bind fun y239 => (if t236.length + y239.length < 17592186044416 then ((some (t236 ++ y239 : List Int)).bind fun y242 => (if 0 < (y242.length : Int) then (if 1 < (y242.length : Int) then (if 2 < (y242.length : Int) then (if 0 < (t219.length : Int) then ((impl_opOf.f k1 (rdOf ByteArray.empty t219 0)).bind fun t249 => (if t249 = 1 then (impl_InsRead.j4 k1 a0 t249 (rd y242 0) 0 0 (rd y242 1)) else (if t249 = 2 then (impl_InsRead.j1 k1 a0 (rd y242 0) (rd y242 1) (rd y242 2) t249 (t249 == 2) t249 0 0 0 0) else (if t249 = 3 then (impl_InsRead.j1 k1 a0 (rd y242 0) (rd y242 1) (rd y242 2) t249 (t249 == 3) t249 0 0 0 0) else (impl_InsRead.j1 k1 a0 (rd y242 0) (rd y242 1) (rd y242 2) t249 (t249 == 4) t249 0 0 0 0))))) else (none)) else (none)) else (none)) else (none))) else (none))) = some (r1, r2, r3, r4, r5, r6) := H
     have A19 := aM_ A190
     clear A190
     obtain ⟨y239, hy239⟩ : ∃ y_ : List Int, y_ = (([0, 0, 0] : List Int)) := ⟨_, rfl⟩
     replace H : (if t236.length + y239.length < 17592186044416 then ((some (t236 ++ y239 : List Int)).bind fun y242 => (if 0 < (y242.length : Int) then (if 1 < (y242.length : Int) then (if 2 < (y242.length : Int) then (if 0 < (t219.length : Int) then ((impl_opOf.f k1 (rdOf ByteArray.empty t219 0)).bind fun t249 => (if t249 = 1 then (impl_InsRead.j4 k1 a0 t249 (rd y242 0) 0 0 (rd y242 1)) else (if t249 = 2 then (impl_InsRead.j1 k1 a0 (rd y242 0) (rd y242 1) (rd y242 2) t249 (t249 == 2) t249 0 0 0 0) else (if t249 = 3 then (impl_InsRead.j1 k1 a0 (rd y242 0) (rd y242 1) (rd y242 2) t249 (t249 == 3) t249 0 0 0 0) else (impl_InsRead.j1 k1 a0 (rd y242 0) (rd y242 1) (rd y242 2) t249 (t249 == 4) t249 0 0 0 0))))) else (none)) else (none)) else (none)) else (none))) else (none)) = some (r1, r2, r3, r4, r5, r6) := by first | (rw [hy239]; with_reducible exact H) | (have H2_ := (Option.bind_some _ _).symm.trans H; rw [hy239]; with_reducible exact H2_) | (have H2_ := (Option.bind_some _ _).symm.trans H; with_reducible exact H2_) | with_reducible exact H | (rw [hy239]; exact H) | exact H
     have Ny239 := aM_ hy239
     clear hy239
     by_cases c20 : t236.length + y239.length < 17592186044416
     ·rw [if_pos c20] at H
      have LMc20 := aM_ c20
      clear c20
      obtain ⟨y242, hy242⟩ : ∃ y_ : List Int, y_ = (t236 ++ y239) := ⟨_, rfl⟩
      replace H : (if 0 < (y242.length : Int) then (if 1 < (y242.length : Int) then (if 2 < (y242.length : Int) then (if 0 < (t219.length : Int) then ((impl_opOf.f k1 (rdOf ByteArray.empty t219 0)).bind fun t249 => (if t249 = 1 then (impl_InsRead.j4 k1 a0 t249 (rd y242 0) 0 0 (rd y242 1)) else (if t249 = 2 then (impl_InsRead.j1 k1 a0 (rd y242 0) (rd y242 1) (rd y242 2) t249 (t249 == 2) t249 0 0 0 0) else (if t249 = 3 then (impl_InsRead.j1 k1 a0 (rd y242 0) (rd y242 1) (rd y242 2) t249 (t249 == 3) t249 0 0 0 0) else (impl_InsRead.j1 k1 a0 (rd y242 0) (rd y242 1) (rd y242 2) t249 (t249 == 4) t249 0 0 0 0))))) else (none)) else (none)) else (none)) else (none)) = some (r1, r2, r3, r4, r5, r6) := by first | (rw [hy242]; with_reducible exact H) | (have H2_ := (Option.bind_some _ _).symm.trans H; rw [hy242]; with_reducible exact H2_) | (have H2_ := (Option.bind_some _ _).symm.trans H; with_reducible exact H2_) | with_reducible exact H | (rw [hy242]; exact H) | exact H
      have Ny242 := aM_ hy242
      clear hy242
      by_cases c21 : 0 < (y242.length : Int)
      ·rw [if_pos c21] at H
       have c21b0 : decide (0 < (y242.length : Int)) = true := decide_eq_true c21
       have c21b1 : decide (0 < y242.length) = true := decide_eq_true (by omega)
       clear c21
       by_cases c22 : 1 < (y242.length : Int)
       ·rw [if_pos c22] at H
        have c22b0 : decide (1 < (y242.length : Int)) = true := decide_eq_true c22
        have c22b1 : decide (1 < y242.length) = true := decide_eq_true (by omega)
        clear c22
        by_cases c23 : 2 < (y242.length : Int)
        ·rw [if_pos c23] at H
         have c23b0 : decide (2 < (y242.length : Int)) = true := decide_eq_true c23
         have c23b1 : decide (2 < y242.length) = true := decide_eq_true (by omega)
         clear c23
         by_cases c24 : 0 < (t219.length : Int)
         ·rw [if_pos c24] at H
          have c24b0 : decide (0 < (t219.length : Int)) = true := decide_eq_true c24
          have c24b1 : decide (0 < t219.length) = true := decide_eq_true (by omega)
          clear c24
          replace H := Option.bind_eq_some_iff.mp H
          obtain ⟨t249, A250, H⟩ := H
          replace H : (if t249 = 1 then (impl_InsRead.j4 k1 a0 t249 (rd y242 0) 0 0 (rd y242 1)) else (if t249 = 2 then (impl_InsRead.j1 k1 a0 (rd y242 0) (rd y242 1) (rd y242 2) t249 (t249 == 2) t249 0 0 0 0) else (if t249 = 3 then (impl_InsRead.j1 k1 a0 (rd y242 0) (rd y242 1) (rd y242 2) t249 (t249 == 3) t249 0 0 0 0) else (impl_InsRead.j1 k1 a0 (rd y242 0) (rd y242 1) (rd y242 2) t249 (t249 == 4) t249 0 0 0 0)))) = some (r1, r2, r3, r4, r5, r6) := H
          have A25 := aM_ A250
          clear A250
          have HC26 := aM_ H
          clear H
          obtain ⟨Ao27, co27, eo27⟩ := Kd.R_slice HO_5.out
          subst eo27
          go_upto_block 2 with (first | (go_at_call 103; (with_reducible refine (impl_copyInts.calls _ _ x5_1 t236 _ ?side1 ?side2 A19.out).mono ?_); (case side1 => repeat (first | exact (Kd.R_reads' HO_5.out).2.2 | (with_reducible refine Kd.C_alloc ?_ _) | (with_reducible refine Kd.C_drewN ?_ _) | (with_reducible refine Kd.C_drew ?_))); (case side2 => exact (Kd.R_reads' HO_5.out).2.1); rintro e w28 ⟨v237, rfl, ho0, hb⟩; have n0 := aM_ (Kd.R_below (by (with_reducible repeat (first | apply rA_ | apply rN_ | apply rD_)); exact HO_4.out) hb); have n1 := aM_ (Kd.R_elder' (by (with_reducible repeat (first | apply rA_ | apply rN_ | apply rD_)); exact HO_5.out) (Kd.R_base ho0) hb); have n2 := aM_ (Kd.R_lower (Kd.R_new' ho0 (Kd.R_lt (by (with_reducible repeat (first | apply rA_ | apply rN_ | apply rD_)); exact HO_5.out))) (below_size (by repeat (first | (with_reducible first | exact HB.out | apply hA_ | apply hN_ | apply hD_ | refine below_set ?_ GE218.out) | exact HB.out)))); have n3 := aM_ (blk_below (g := gb218) (o := .cells #[.int .i64 x2190_1, .int .i64 x2191_1, .int .i64 x2192_1, .int .i64 x2193_1, .int .i64 x2194_1] 32 (0, 0)) (by (with_reducible repeat (first | refine bN_ ?_ _ | refine bD_ ?_ | refine bA_ ?_ _)); exact BK218.out) hb); have n4 := aM_ (below_step (by repeat (first | (with_reducible first | exact HB.out | apply hA_ | apply hN_ | apply hD_ | refine below_set ?_ GE218.out) | exact HB.out)) hb); clear HO_4; clear HO_5; clear BK218; clear HB; have HO_4 := n0; have HO_5 := n1; have HO238 := n2; have BK218 := n3; have HB := n4; clear n0 n1 n2 n3 n4; (try clear ho0)) | ((with_reducible refine gate_dst (N := 41) rfl ?_); refine Kd.R_lit (Kd.int .i64) _ 3 ?hg (N := 41) ?hd (xs := ([0, 0, 0] : List Int)) (inner := [.int .i64 0, .int .i64 0, .int .i64 0]) (ok := fun _ => True) (okp := fun _ => True) ?hr ?hp (fun _ hk => hk) trivial (Below.refl _ _) (Nat.le_refl _) (by simp) ?_; (case hd => rfl); (case hg => rfl); (case hr => first | (go_simp; done) | (go_simp; rfl)); (case hp => exact (Reps.one (show Kd.M (Kd.int .i64) _ _ _ 0 [.int .i64 0] from rfl) (Reps.one (show Kd.M (Kd.int .i64) _ _ _ 0 [.int .i64 0] from rfl) (Reps.one (show Kd.M (Kd.int .i64) _ _ _ 0 [.int .i64 0] from rfl) (Reps.none _ _))))); intro v240 w29 ho30 hb hg_ hnew_; clear hg_ hnew_; (first | rw [← Ny239.out] at ho30 | (simp only [Int.reduceToNat] at ho30; rw [← Ny239.out] at ho30)); have n0 := aM_ (Kd.R_below (by (with_reducible repeat (first | apply rA_ | apply rN_ | apply rD_)); exact HO_4.out) hb); have n1 := aM_ (Kd.R_elder' (by (with_reducible repeat (first | apply rA_ | apply rN_ | apply rD_)); exact HO_5.out) (Kd.R_base ho30) hb); have n2 := aM_ (Kd.R_elder' (by (with_reducible repeat (first | apply rA_ | apply rN_ | apply rD_)); exact HO238.out) (Kd.R_base ho30) hb); have n3 := aM_ (Kd.R_lower (Kd.R_new' (Kd.R_new' ho30 (Kd.R_lt (by (with_reducible repeat (first | apply rA_ | apply rN_ | apply rD_)); exact HO_5.out))) (Kd.R_lt (by (with_reducible repeat (first | apply rA_ | apply rN_ | apply rD_)); exact HO238.out))) (below_size (by repeat (first | (with_reducible first | exact HB.out | apply hA_ | apply hN_ | apply hD_ | refine below_set ?_ GE218.out) | exact HB.out)))); have n4 := aM_ (blk_below (g := gb218) (o := .cells #[.int .i64 x2190_1, .int .i64 x2191_1, .int .i64 x2192_1, .int .i64 x2193_1, .int .i64 x2194_1] 32 (0, 0)) (by (with_reducible repeat (first | refine bN_ ?_ _ | refine bD_ ?_ | refine bA_ ?_ _)); exact BK218.out) hb); have n5 := aM_ (below_step (by repeat (first | (with_reducible first | exact HB.out | apply hA_ | apply hN_ | apply hD_ | refine below_set ?_ GE218.out) | exact HB.out)) hb); clear HO_4; clear HO_5; clear HO238; clear BK218; clear HB; have HO_4 := n0; have HO_5 := n1; have HO238 := n2; have HO241 := n3; have BK218 := n4; have HB := n5; clear n0 n1 n2 n3 n4 n5; clear hb ho30; obtain ⟨Ao32, co32, eo32⟩ := Kd.R_slice HO241.out; subst eo32) | ((with_reducible refine gate_builtin (b := .append) (xs := #[.tmp 40, .tmp 41]) rfl ?_); at_builtin; refine Kd.R_append_rows (Kd.int .i64) (w0 := w) w.heap.size rfl (.tmp 40) (.tmp 41) 35 3 (.int .i64 0) 8 rfl Tryd.underlying35 info3 rfl (by decide) (by omega) v237 t236 y239 _ _ _ (fun k_ => some k_ ≠ (.slice Ao27 x5_1.length co27 : Value).ownBlock ∧ some k_ ≠ (.slice Ao32 y239.length co32 : Value).ownBlock) (fun _ => False) rfl rfl ?aO ?aR (fun _ _ h => h) (fun _ h => h.elim) ?aF ?aB ?aS ?aL ?_; (case aR => repeat (first | exact (Kd.R_reads' HO241.out).2.2 | (with_reducible refine Kd.C_alloc ?_ _) | (with_reducible refine Kd.C_drewN ?_ _) | (with_reducible refine Kd.C_drew ?_))); (case aB => exact (by repeat (first | (with_reducible first | exact HB.out | apply hA_ | apply hN_ | apply hD_ | refine below_set ?_ GE218.out) | exact HB.out))); (case aF => exact (fun k_ hk => ⟨Kd.fresh' (Kd.R_lt (by (with_reducible repeat (first | apply rA_ | apply rN_ | apply rD_)); exact HO_5.out)) k_ hk, Kd.fresh' (Kd.R_lt (by (with_reducible repeat (first | apply rA_ | apply rN_ | apply rD_)); exact HO241.out)) k_ hk⟩)); (case aO => exact (by (with_reducible repeat (first | apply rA_ | apply rN_ | apply rD_)); exact Kd.R_mono HO238.out (fun _ hk => ⟨hk.1.2, hk.2⟩))); (case aS => exact (below_size (by repeat (first | (with_reducible first | exact HB.out | apply hA_ | apply hN_ | apply hD_ | refine below_set ?_ GE218.out) | exact HB.out)))); (case aL => have := LMc20.out; omega); intro v243 w31 ho hb hg hat; rw [← Ny242.out] at ho; have n0 := aM_ (Kd.R_over' (by (with_reducible repeat (first | apply rA_ | apply rN_ | apply rD_)); exact HO_4.out) (Kd.R_typed (by (with_reducible repeat (first | apply rA_ | apply rN_ | apply rD_)); exact HO238.out)) (by decide) hg); have n1 := aM_ (Kd.R_after (ok := (fun k_ => some k_ ≠ (.slice Ao32 y239.length co32 : Value).ownBlock)) (by (with_reducible repeat (first | apply rA_ | apply rN_ | apply rD_)); exact Kd.R_mono HO_5.out (fun _ hk => ⟨hk.2, hk.1.2⟩)) hg hat); have n2 := aM_ (blk_grown (g := gb218) (o := .cells #[.int .i64 x2190_1, .int .i64 x2191_1, .int .i64 x2192_1, .int .i64 x2193_1, .int .i64 x2194_1] 32 (0, 0)) (by (with_reducible repeat (first | refine bN_ ?_ _ | refine bD_ ?_ | refine bA_ ?_ _)); exact BK218.out) hg (Kd.R_ne HO238.out BK218.out (by decide))); have n3 := aM_ (Kd.R_after (ok := (fun k_ => some k_ ≠ (.slice Ao27 x5_1.length co27 : Value).ownBlock)) (by (with_reducible repeat (first | apply rA_ | apply rN_ | apply rD_)); exact Kd.R_mono HO241.out (fun _ hk => ⟨hk.1.2, hk.2⟩)) hg hat); have n4 := aM_ (hb); have n5 := aM_ (ho); clear HO_4; clear HO_5; clear BK218; clear HO241; clear HB; clear HO238; have HO_4 := n0; have HO_5 := n1; have BK218 := n2; have HO241 := n3; have HB := n4; have HO244 := n5; clear n0 n1 n2 n3 n4 n5; clear ho hb hg hat; obtain ⟨Ao33, co33, eo33⟩ := Kd.R_slice HO244.out; subst eo33; have p245 : 0 ≤ (0 : Int) := (by omega); have q245 : 0 < (y242.length : Int) := of_decide_eq_true (by first | (with_reducible assumption) | assumption); obtain ⟨ad245, e245, hx245_0⟩ := Kd.at_int (Kd.R_reads' HO244.out).2.2 0 p245 q245; cases e245; have qi245 : (0 < y242.length) = True := eq_true (by omega); (try rw [show ((0 : Int)).toNat = 0 from rfl] at hx245_0); (try rw [Addr.add_zero'] at hx245_0); replace p245 := eq_true p245; replace q245 := eq_true q245; have p246 : 0 ≤ (1 : Int) := (by omega); have q246 : 1 < (y242.length : Int) := of_decide_eq_true (by first | (with_reducible assumption) | assumption); obtain ⟨ad246, e246, hx246_0⟩ := Kd.at_int (Kd.R_reads' HO244.out).2.2 1 p246 q246; obtain rfl : ad245 = ad246 := (by injection e246); (try simp only [show (1 : Int).toNat = 1 from rfl, Nat.reduceMul, Nat.reduceEqDiff, Go.Addr.add, ↓reduceIte] at hx246_0); have qi246 : (1 < y242.length) = True := eq_true (by omega); (try rw [show ((1 : Int)).toNat = 1 from rfl] at hx246_0); replace p246 := eq_true p246; replace q246 := eq_true q246; have p247 : 0 ≤ (2 : Int) := (by omega); have q247 : 2 < (y242.length : Int) := of_decide_eq_true (by first | (with_reducible assumption) | assumption); obtain ⟨ad247, e247, hx247_0⟩ := Kd.at_int (Kd.R_reads' HO244.out).2.2 2 p247 q247; obtain rfl : ad245 = ad247 := (by injection e247); (try simp only [show (2 : Int).toNat = 2 from rfl, Nat.reduceMul, Nat.reduceEqDiff, Go.Addr.add, ↓reduceIte] at hx247_0); have qi247 : (2 < y242.length) = True := eq_true (by omega); (try rw [show ((2 : Int)).toNat = 2 from rfl] at hx247_0); replace p247 := eq_true p247; replace q247 := eq_true q247; have p248 : 0 ≤ (0 : Int) := (by omega); have q248 : 0 < (t219.length : Int) := of_decide_eq_true (by first | (with_reducible assumption) | assumption); obtain ⟨ad248, e248, hx248_0⟩ := Kd.at_string (Kd.R_reads' HO_4.out).2.2 0 p248 q248; cases e248; have qi248 : (0 < t219.length) = True := eq_true (by omega); (try rw [show ((0 : Int)).toNat = 0 from rfl] at hx248_0); (try rw [Addr.add_zero'] at hx248_0); replace p248 := eq_true p248; replace q248 := eq_true q248) | (go_at_call 104; (with_reducible refine (impl_opOf.calls k1 (rdOf ByteArray.empty t219 0) t249 _ A25.out).mono ?_); rintro e w34 ⟨rfl, hb⟩; have n0 := aM_ (Kd.R_below (by (with_reducible repeat (first | apply rA_ | apply rN_ | apply rD_)); exact HO_4.out) hb); have n1 := aM_ (Kd.R_below (by (with_reducible repeat (first | apply rA_ | apply rN_ | apply rD_)); exact HO_5.out) hb); have n2 := aM_ (Kd.R_below (by (with_reducible repeat (first | apply rA_ | apply rN_ | apply rD_)); exact HO241.out) hb); have n3 := aM_ (Kd.R_below (by (with_reducible repeat (first | apply rA_ | apply rN_ | apply rD_)); exact HO244.out) hb); have n4 := aM_ (blk_below (g := gb218) (o := .cells #[.int .i64 x2190_1, .int .i64 x2191_1, .int .i64 x2192_1, .int .i64 x2193_1, .int .i64 x2194_1] 32 (0, 0)) (by (with_reducible repeat (first | refine bN_ ?_ _ | refine bD_ ?_ | refine bA_ ?_ _)); exact BK218.out) hb); have n5 := aM_ (below_step (by repeat (first | (with_reducible first | exact HB.out | apply hA_ | apply hN_ | apply hD_ | refine below_set ?_ GE218.out) | exact HB.out)) hb); clear HO_4; clear HO_5; clear HO241; clear HO244; clear BK218; clear HB; have HO_4 := n0; have HO_5 := n1; have HO241 := n2; have HO244 := n3; have BK218 := n4; have HB := n5; clear n0 n1 n2 n3 n4 n5) | ((with_reducible refine gate_dst (N := 14) rfl ?_); refine box_event ?hg (N := 14) ?hd (cs := #[.int .i64 0, .int .i64 0, .int .i64 0, .int .i64 0, .int .i64 0]) (t := 32) ?hr ?_; (case hd => rfl); (case hg => rfl); (case hr => first | (go_simp; done) | (go_simp; rfl)); intro gb250 hg w35 hbox hb; have n0 := aM_ (Kd.R_below (by (with_reducible repeat (first | apply rA_ | apply rN_ | apply rD_)); exact HO_4.out) hb); have n1 := aM_ (Kd.R_below (by (with_reducible repeat (first | apply rA_ | apply rN_ | apply rD_)); exact HO_5.out) hb); have n2 := aM_ (Kd.R_below (by (with_reducible repeat (first | apply rA_ | apply rN_ | apply rD_)); exact HO241.out) hb); have n3 := aM_ (Kd.R_below (by (with_reducible repeat (first | apply rA_ | apply rN_ | apply rD_)); exact HO244.out) hb); have n4 := aM_ (blk_below (g := gb218) (o := .cells #[.int .i64 x2190_1, .int .i64 x2191_1, .int .i64 x2192_1, .int .i64 x2193_1, .int .i64 x2194_1] 32 (0, 0)) (by (with_reducible repeat (first | refine bN_ ?_ _ | refine bD_ ?_ | refine bA_ ?_ _)); exact BK218.out) hb); have n5 := aM_ (below_step (by repeat (first | (with_reducible first | exact HB.out | apply hA_ | apply hN_ | apply hD_ | refine below_set ?_ GE218.out) | exact HB.out)) hb); have n6 := aM_ (hbox); have n7 := aM_ ((by rw [hg]; exact (below_size (by repeat (first | (with_reducible first | exact HB.out | apply hA_ | apply hN_ | apply hD_ | refine below_set ?_ GE218.out) | exact HB.out))) : w.heap.size ≤ gb250)); have n8 := aM_ ((by rw [hg]; exact (below_size (by repeat (first | (with_reducible first | exact HB.out | apply hA_ | apply hN_ | apply hD_ | refine below_set ?_ GE218.out) | exact HB.out))) : w.heap.size ≤ gb250)); have n9 := aM_ ((by rw [hg]; exact Nat.ne_of_lt (blk_lt (g := gb218) (o := .cells #[.int .i64 x2190_1, .int .i64 x2191_1, .int .i64 x2192_1, .int .i64 x2193_1, .int .i64 x2194_1] 32 (0, 0)) (by (with_reducible repeat (first | refine bN_ ?_ _ | refine bD_ ?_ | refine bA_ ?_ _)); exact BK218.out)) : gb218 ≠ gb250)); have n10 := aM_ ((by rw [hg]; exact Nat.ne_of_gt (blk_lt (g := gb218) (o := .cells #[.int .i64 x2190_1, .int .i64 x2191_1, .int .i64 x2192_1, .int .i64 x2193_1, .int .i64 x2194_1] 32 (0, 0)) (by (with_reducible repeat (first | refine bN_ ?_ _ | refine bD_ ?_ | refine bA_ ?_ _)); exact BK218.out)) : gb250 ≠ gb218)); clear HO_4; clear HO_5; clear HO241; clear HO244; clear BK218; clear HB; have HO_4 := n0; have HO_5 := n1; have HO241 := n2; have HO244 := n3; have BK218 := n4; have HB := n5; have BK250 := n6; have GW250 := n7; have GE250 := n8; have NB218_250 := n9; have NB250_218 := n10; clear n0 n1 n2 n3 n4 n5 n6 n7 n8 n9 n10; clear hb hbox hg; have hnb36 := NB250_218.out; have hnc36 := NB218_250.out; have hcz37_0 : w35.cell? ⟨gb250, 0, none⟩ = some (.int .i64 0) := (blk_cell BK250.out 0).trans rfl; have hcz37_1 : w35.cell? ⟨gb250, 1, none⟩ = some (.int .i64 0) := (blk_cell BK250.out 1).trans rfl; have hcz37_2 : w35.cell? ⟨gb250, 2, none⟩ = some (.int .i64 0) := (blk_cell BK250.out 2).trans rfl; have hcz37_3 : w35.cell? ⟨gb250, 3, none⟩ = some (.int .i64 0) := (blk_cell BK250.out 3).trans rfl; have hcz37_4 : w35.cell? ⟨gb250, 4, none⟩ = some (.int .i64 0) := (blk_cell BK250.out 4).trans rfl; have hfz37_0 := blk_frozen BK250.out 0; have hfz37_1 := blk_frozen BK250.out 1; have hfz37_2 := blk_frozen BK250.out 2; have hfz37_3 := blk_frozen BK250.out 3; have hfz37_4 := blk_frozen BK250.out 4))
          repeat (go_quiet (first | (go_at_call 103; (with_reducible refine (impl_copyInts.calls _ _ x5_1 t236 _ ?side1 ?side2 A19.out).mono ?_); (case side1 => repeat (first | exact (Kd.R_reads' HO_5.out).2.2 | (with_reducible refine Kd.C_alloc ?_ _) | (with_reducible refine Kd.C_drewN ?_ _) | (with_reducible refine Kd.C_drew ?_))); (case side2 => exact (Kd.R_reads' HO_5.out).2.1); rintro e w28 ⟨v237, rfl, ho0, hb⟩; have n0 := aM_ (Kd.R_below (by (with_reducible repeat (first | apply rA_ | apply rN_ | apply rD_)); exact HO_4.out) hb); have n1 := aM_ (Kd.R_elder' (by (with_reducible repeat (first | apply rA_ | apply rN_ | apply rD_)); exact HO_5.out) (Kd.R_base ho0) hb); have n2 := aM_ (Kd.R_lower (Kd.R_new' ho0 (Kd.R_lt (by (with_reducible repeat (first | apply rA_ | apply rN_ | apply rD_)); exact HO_5.out))) (below_size (by repeat (first | (with_reducible first | exact HB.out | apply hA_ | apply hN_ | apply hD_ | refine below_set ?_ GE218.out) | exact HB.out)))); have n3 := aM_ (blk_below (g := gb218) (o := .cells #[.int .i64 x2190_1, .int .i64 x2191_1, .int .i64 x2192_1, .int .i64 x2193_1, .int .i64 x2194_1] 32 (0, 0)) (by (with_reducible repeat (first | refine bN_ ?_ _ | refine bD_ ?_ | refine bA_ ?_ _)); exact BK218.out) hb); have n4 := aM_ (below_step (by repeat (first | (with_reducible first | exact HB.out | apply hA_ | apply hN_ | apply hD_ | refine below_set ?_ GE218.out) | exact HB.out)) hb); clear HO_4; clear HO_5; clear BK218; clear HB; have HO_4 := n0; have HO_5 := n1; have HO238 := n2; have BK218 := n3; have HB := n4; clear n0 n1 n2 n3 n4; (try clear ho0)) | ((with_reducible refine gate_dst (N := 41) rfl ?_); refine Kd.R_lit (Kd.int .i64) _ 3 ?hg (N := 41) ?hd (xs := ([0, 0, 0] : List Int)) (inner := [.int .i64 0, .int .i64 0, .int .i64 0]) (ok := fun _ => True) (okp := fun _ => True) ?hr ?hp (fun _ hk => hk) trivial (Below.refl _ _) (Nat.le_refl _) (by simp) ?_; (case hd => rfl); (case hg => rfl); (case hr => first | (go_simp; done) | (go_simp; rfl)); (case hp => exact (Reps.one (show Kd.M (Kd.int .i64) _ _ _ 0 [.int .i64 0] from rfl) (Reps.one (show Kd.M (Kd.int .i64) _ _ _ 0 [.int .i64 0] from rfl) (Reps.one (show Kd.M (Kd.int .i64) _ _ _ 0 [.int .i64 0] from rfl) (Reps.none _ _))))); intro v240 w29 ho30 hb hg_ hnew_; clear hg_ hnew_; (first | rw [← Ny239.out] at ho30 | (simp only [Int.reduceToNat] at ho30; rw [← Ny239.out] at ho30)); have n0 := aM_ (Kd.R_below (by (with_reducible repeat (first | apply rA_ | apply rN_ | apply rD_)); exact HO_4.out) hb); have n1 := aM_ (Kd.R_elder' (by (with_reducible repeat (first | apply rA_ | apply rN_ | apply rD_)); exact HO_5.out) (Kd.R_base ho30) hb); have n2 := aM_ (Kd.R_elder' (by (with_reducible repeat (first | apply rA_ | apply rN_ | apply rD_)); exact HO238.out) (Kd.R_base ho30) hb); have n3 := aM_ (Kd.R_lower (Kd.R_new' (Kd.R_new' ho30 (Kd.R_lt (by (with_reducible repeat (first | apply rA_ | apply rN_ | apply rD_)); exact HO_5.out))) (Kd.R_lt (by (with_reducible repeat (first | apply rA_ | apply rN_ | apply rD_)); exact HO238.out))) (below_size (by repeat (first | (with_reducible first | exact HB.out | apply hA_ | apply hN_ | apply hD_ | refine below_set ?_ GE218.out) | exact HB.out)))); have n4 := aM_ (blk_below (g := gb218) (o := .cells #[.int .i64 x2190_1, .int .i64 x2191_1, .int .i64 x2192_1, .int .i64 x2193_1, .int .i64 x2194_1] 32 (0, 0)) (by (with_reducible repeat (first | refine bN_ ?_ _ | refine bD_ ?_ | refine bA_ ?_ _)); exact BK218.out) hb); have n5 := aM_ (below_step (by repeat (first | (with_reducible first | exact HB.out | apply hA_ | apply hN_ | apply hD_ | refine below_set ?_ GE218.out) | exact HB.out)) hb); clear HO_4; clear HO_5; clear HO238; clear BK218; clear HB; have HO_4 := n0; have HO_5 := n1; have HO238 := n2; have HO241 := n3; have BK218 := n4; have HB := n5; clear n0 n1 n2 n3 n4 n5; clear hb ho30; obtain ⟨Ao32, co32, eo32⟩ := Kd.R_slice HO241.out; subst eo32) | ((with_reducible refine gate_builtin (b := .append) (xs := #[.tmp 40, .tmp 41]) rfl ?_); at_builtin; refine Kd.R_append_rows (Kd.int .i64) (w0 := w) w.heap.size rfl (.tmp 40) (.tmp 41) 35 3 (.int .i64 0) 8 rfl Tryd.underlying35 info3 rfl (by decide) (by omega) v237 t236 y239 _ _ _ (fun k_ => some k_ ≠ (.slice Ao27 x5_1.length co27 : Value).ownBlock ∧ some k_ ≠ (.slice Ao32 y239.length co32 : Value).ownBlock) (fun _ => False) rfl rfl ?aO ?aR (fun _ _ h => h) (fun _ h => h.elim) ?aF ?aB ?aS ?aL ?_; (case aR => repeat (first | exact (Kd.R_reads' HO241.out).2.2 | (with_reducible refine Kd.C_alloc ?_ _) | (with_reducible refine Kd.C_drewN ?_ _) | (with_reducible refine Kd.C_drew ?_))); (case aB => exact (by repeat (first | (with_reducible first | exact HB.out | apply hA_ | apply hN_ | apply hD_ | refine below_set ?_ GE218.out) | exact HB.out))); (case aF => exact (fun k_ hk => ⟨Kd.fresh' (Kd.R_lt (by (with_reducible repeat (first | apply rA_ | apply rN_ | apply rD_)); exact HO_5.out)) k_ hk, Kd.fresh' (Kd.R_lt (by (with_reducible repeat (first | apply rA_ | apply rN_ | apply rD_)); exact HO241.out)) k_ hk⟩)); (case aO => exact (by (with_reducible repeat (first | apply rA_ | apply rN_ | apply rD_)); exact Kd.R_mono HO238.out (fun _ hk => ⟨hk.1.2, hk.2⟩))); (case aS => exact (below_size (by repeat (first | (with_reducible first | exact HB.out | apply hA_ | apply hN_ | apply hD_ | refine below_set ?_ GE218.out) | exact HB.out)))); (case aL => have := LMc20.out; omega); intro v243 w31 ho hb hg hat; rw [← Ny242.out] at ho; have n0 := aM_ (Kd.R_over' (by (with_reducible repeat (first | apply rA_ | apply rN_ | apply rD_)); exact HO_4.out) (Kd.R_typed (by (with_reducible repeat (first | apply rA_ | apply rN_ | apply rD_)); exact HO238.out)) (by decide) hg); have n1 := aM_ (Kd.R_after (ok := (fun k_ => some k_ ≠ (.slice Ao32 y239.length co32 : Value).ownBlock)) (by (with_reducible repeat (first | apply rA_ | apply rN_ | apply rD_)); exact Kd.R_mono HO_5.out (fun _ hk => ⟨hk.2, hk.1.2⟩)) hg hat); have n2 := aM_ (blk_grown (g := gb218) (o := .cells #[.int .i64 x2190_1, .int .i64 x2191_1, .int .i64 x2192_1, .int .i64 x2193_1, .int .i64 x2194_1] 32 (0, 0)) (by (with_reducible repeat (first | refine bN_ ?_ _ | refine bD_ ?_ | refine bA_ ?_ _)); exact BK218.out) hg (Kd.R_ne HO238.out BK218.out (by decide))); have n3 := aM_ (Kd.R_after (ok := (fun k_ => some k_ ≠ (.slice Ao27 x5_1.length co27 : Value).ownBlock)) (by (with_reducible repeat (first | apply rA_ | apply rN_ | apply rD_)); exact Kd.R_mono HO241.out (fun _ hk => ⟨hk.1.2, hk.2⟩)) hg hat); have n4 := aM_ (hb); have n5 := aM_ (ho); clear HO_4; clear HO_5; clear BK218; clear HO241; clear HB; clear HO238; have HO_4 := n0; have HO_5 := n1; have BK218 := n2; have HO241 := n3; have HB := n4; have HO244 := n5; clear n0 n1 n2 n3 n4 n5; clear ho hb hg hat; obtain ⟨Ao33, co33, eo33⟩ := Kd.R_slice HO244.out; subst eo33; have p245 : 0 ≤ (0 : Int) := (by omega); have q245 : 0 < (y242.length : Int) := of_decide_eq_true (by first | (with_reducible assumption) | assumption); obtain ⟨ad245, e245, hx245_0⟩ := Kd.at_int (Kd.R_reads' HO244.out).2.2 0 p245 q245; cases e245; have qi245 : (0 < y242.length) = True := eq_true (by omega); (try rw [show ((0 : Int)).toNat = 0 from rfl] at hx245_0); (try rw [Addr.add_zero'] at hx245_0); replace p245 := eq_true p245; replace q245 := eq_true q245; have p246 : 0 ≤ (1 : Int) := (by omega); have q246 : 1 < (y242.length : Int) := of_decide_eq_true (by first | (with_reducible assumption) | assumption); obtain ⟨ad246, e246, hx246_0⟩ := Kd.at_int (Kd.R_reads' HO244.out).2.2 1 p246 q246; obtain rfl : ad245 = ad246 := (by injection e246); (try simp only [show (1 : Int).toNat = 1 from rfl, Nat.reduceMul, Nat.reduceEqDiff, Go.Addr.add, ↓reduceIte] at hx246_0); have qi246 : (1 < y242.length) = True := eq_true (by omega); (try rw [show ((1 : Int)).toNat = 1 from rfl] at hx246_0); replace p246 := eq_true p246; replace q246 := eq_true q246; have p247 : 0 ≤ (2 : Int) := (by omega); have q247 : 2 < (y242.length : Int) := of_decide_eq_true (by first | (with_reducible assumption) | assumption); obtain ⟨ad247, e247, hx247_0⟩ := Kd.at_int (Kd.R_reads' HO244.out).2.2 2 p247 q247; obtain rfl : ad245 = ad247 := (by injection e247); (try simp only [show (2 : Int).toNat = 2 from rfl, Nat.reduceMul, Nat.reduceEqDiff, Go.Addr.add, ↓reduceIte] at hx247_0); have qi247 : (2 < y242.length) = True := eq_true (by omega); (try rw [show ((2 : Int)).toNat = 2 from rfl] at hx247_0); replace p247 := eq_true p247; replace q247 := eq_true q247; have p248 : 0 ≤ (0 : Int) := (by omega); have q248 : 0 < (t219.length : Int) := of_decide_eq_true (by first | (with_reducible assumption) | assumption); obtain ⟨ad248, e248, hx248_0⟩ := Kd.at_string (Kd.R_reads' HO_4.out).2.2 0 p248 q248; cases e248; have qi248 : (0 < t219.length) = True := eq_true (by omega); (try rw [show ((0 : Int)).toNat = 0 from rfl] at hx248_0); (try rw [Addr.add_zero'] at hx248_0); replace p248 := eq_true p248; replace q248 := eq_true q248) | (go_at_call 104; (with_reducible refine (impl_opOf.calls k1 (rdOf ByteArray.empty t219 0) t249 _ A25.out).mono ?_); rintro e w34 ⟨rfl, hb⟩; have n0 := aM_ (Kd.R_below (by (with_reducible repeat (first | apply rA_ | apply rN_ | apply rD_)); exact HO_4.out) hb); have n1 := aM_ (Kd.R_below (by (with_reducible repeat (first | apply rA_ | apply rN_ | apply rD_)); exact HO_5.out) hb); have n2 := aM_ (Kd.R_below (by (with_reducible repeat (first | apply rA_ | apply rN_ | apply rD_)); exact HO241.out) hb); have n3 := aM_ (Kd.R_below (by (with_reducible repeat (first | apply rA_ | apply rN_ | apply rD_)); exact HO244.out) hb); have n4 := aM_ (blk_below (g := gb218) (o := .cells #[.int .i64 x2190_1, .int .i64 x2191_1, .int .i64 x2192_1, .int .i64 x2193_1, .int .i64 x2194_1] 32 (0, 0)) (by (with_reducible repeat (first | refine bN_ ?_ _ | refine bD_ ?_ | refine bA_ ?_ _)); exact BK218.out) hb); have n5 := aM_ (below_step (by repeat (first | (with_reducible first | exact HB.out | apply hA_ | apply hN_ | apply hD_ | refine below_set ?_ GE218.out) | exact HB.out)) hb); clear HO_4; clear HO_5; clear HO241; clear HO244; clear BK218; clear HB; have HO_4 := n0; have HO_5 := n1; have HO241 := n2; have HO244 := n3; have BK218 := n4; have HB := n5; clear n0 n1 n2 n3 n4 n5) | ((with_reducible refine gate_dst (N := 14) rfl ?_); refine box_event ?hg (N := 14) ?hd (cs := #[.int .i64 0, .int .i64 0, .int .i64 0, .int .i64 0, .int .i64 0]) (t := 32) ?hr ?_; (case hd => rfl); (case hg => rfl); (case hr => first | (go_simp; done) | (go_simp; rfl)); intro gb250 hg w35 hbox hb; have n0 := aM_ (Kd.R_below (by (with_reducible repeat (first | apply rA_ | apply rN_ | apply rD_)); exact HO_4.out) hb); have n1 := aM_ (Kd.R_below (by (with_reducible repeat (first | apply rA_ | apply rN_ | apply rD_)); exact HO_5.out) hb); have n2 := aM_ (Kd.R_below (by (with_reducible repeat (first | apply rA_ | apply rN_ | apply rD_)); exact HO241.out) hb); have n3 := aM_ (Kd.R_below (by (with_reducible repeat (first | apply rA_ | apply rN_ | apply rD_)); exact HO244.out) hb); have n4 := aM_ (blk_below (g := gb218) (o := .cells #[.int .i64 x2190_1, .int .i64 x2191_1, .int .i64 x2192_1, .int .i64 x2193_1, .int .i64 x2194_1] 32 (0, 0)) (by (with_reducible repeat (first | refine bN_ ?_ _ | refine bD_ ?_ | refine bA_ ?_ _)); exact BK218.out) hb); have n5 := aM_ (below_step (by repeat (first | (with_reducible first | exact HB.out | apply hA_ | apply hN_ | apply hD_ | refine below_set ?_ GE218.out) | exact HB.out)) hb); have n6 := aM_ (hbox); have n7 := aM_ ((by rw [hg]; exact (below_size (by repeat (first | (with_reducible first | exact HB.out | apply hA_ | apply hN_ | apply hD_ | refine below_set ?_ GE218.out) | exact HB.out))) : w.heap.size ≤ gb250)); have n8 := aM_ ((by rw [hg]; exact (below_size (by repeat (first | (with_reducible first | exact HB.out | apply hA_ | apply hN_ | apply hD_ | refine below_set ?_ GE218.out) | exact HB.out))) : w.heap.size ≤ gb250)); have n9 := aM_ ((by rw [hg]; exact Nat.ne_of_lt (blk_lt (g := gb218) (o := .cells #[.int .i64 x2190_1, .int .i64 x2191_1, .int .i64 x2192_1, .int .i64 x2193_1, .int .i64 x2194_1] 32 (0, 0)) (by (with_reducible repeat (first | refine bN_ ?_ _ | refine bD_ ?_ | refine bA_ ?_ _)); exact BK218.out)) : gb218 ≠ gb250)); have n10 := aM_ ((by rw [hg]; exact Nat.ne_of_gt (blk_lt (g := gb218) (o := .cells #[.int .i64 x2190_1, .int .i64 x2191_1, .int .i64 x2192_1, .int .i64 x2193_1, .int .i64 x2194_1] 32 (0, 0)) (by (with_reducible repeat (first | refine bN_ ?_ _ | refine bD_ ?_ | refine bA_ ?_ _)); exact BK218.out)) : gb250 ≠ gb218)); clear HO_4; clear HO_5; clear HO241; clear HO244; clear BK218; clear HB; have HO_4 := n0; have HO_5 := n1; have HO241 := n2; have HO244 := n3; have BK218 := n4; have HB := n5; have BK250 := n6; have GW250 := n7; have GE250 := n8; have NB218_250 := n9; have NB250_218 := n10; clear n0 n1 n2 n3 n4 n5 n6 n7 n8 n9 n10; clear hb hbox hg; have hnb36 := NB250_218.out; have hnc36 := NB218_250.out; have hcz37_0 : w35.cell? ⟨gb250, 0, none⟩ = some (.int .i64 0) := (blk_cell BK250.out 0).trans rfl; have hcz37_1 : w35.cell? ⟨gb250, 1, none⟩ = some (.int .i64 0) := (blk_cell BK250.out 1).trans rfl; have hcz37_2 : w35.cell? ⟨gb250, 2, none⟩ = some (.int .i64 0) := (blk_cell BK250.out 2).trans rfl; have hcz37_3 : w35.cell? ⟨gb250, 3, none⟩ = some (.int .i64 0) := (blk_cell BK250.out 3).trans rfl; have hcz37_4 : w35.cell? ⟨gb250, 4, none⟩ = some (.int .i64 0) := (blk_cell BK250.out 4).trans rfl; have hfz37_0 := blk_frozen BK250.out 0; have hfz37_1 := blk_frozen BK250.out 1; have hfz37_2 := blk_frozen BK250.out 2; have hfz37_3 := blk_frozen BK250.out 3; have hfz37_4 := blk_frozen BK250.out 4)); go_upto_block 2 with (first | (go_at_call 103; (with_reducible refine (impl_copyInts.calls _ _ x5_1 t236 _ ?side1 ?side2 A19.out).mono ?_); (case side1 => repeat (first | exact (Kd.R_reads' HO_5.out).2.2 | (with_reducible refine Kd.C_alloc ?_ _) | (with_reducible refine Kd.C_drewN ?_ _) | (with_reducible refine Kd.C_drew ?_))); (case side2 => exact (Kd.R_reads' HO_5.out).2.1); rintro e w28 ⟨v237, rfl, ho0, hb⟩; have n0 := aM_ (Kd.R_below (by (with_reducible repeat (first | apply rA_ | apply rN_ | apply rD_)); exact HO_4.out) hb); have n1 := aM_ (Kd.R_elder' (by (with_reducible repeat (first | apply rA_ | apply rN_ | apply rD_)); exact HO_5.out) (Kd.R_base ho0) hb); have n2 := aM_ (Kd.R_lower (Kd.R_new' ho0 (Kd.R_lt (by (with_reducible repeat (first | apply rA_ | apply rN_ | apply rD_)); exact HO_5.out))) (below_size (by repeat (first | (with_reducible first | exact HB.out | apply hA_ | apply hN_ | apply hD_ | refine below_set ?_ GE218.out) | exact HB.out)))); have n3 := aM_ (blk_below (g := gb218) (o := .cells #[.int .i64 x2190_1, .int .i64 x2191_1, .int .i64 x2192_1, .int .i64 x2193_1, .int .i64 x2194_1] 32 (0, 0)) (by (with_reducible repeat (first | refine bN_ ?_ _ | refine bD_ ?_ | refine bA_ ?_ _)); exact BK218.out) hb); have n4 := aM_ (below_step (by repeat (first | (with_reducible first | exact HB.out | apply hA_ | apply hN_ | apply hD_ | refine below_set ?_ GE218.out) | exact HB.out)) hb); clear HO_4; clear HO_5; clear BK218; clear HB; have HO_4 := n0; have HO_5 := n1; have HO238 := n2; have BK218 := n3; have HB := n4; clear n0 n1 n2 n3 n4; (try clear ho0)) | ((with_reducible refine gate_dst (N := 41) rfl ?_); refine Kd.R_lit (Kd.int .i64) _ 3 ?hg (N := 41) ?hd (xs := ([0, 0, 0] : List Int)) (inner := [.int .i64 0, .int .i64 0, .int .i64 0]) (ok := fun _ => True) (okp := fun _ => True) ?hr ?hp (fun _ hk => hk) trivial (Below.refl _ _) (Nat.le_refl _) (by simp) ?_; (case hd => rfl); (case hg => rfl); (case hr => first | (go_simp; done) | (go_simp; rfl)); (case hp => exact (Reps.one (show Kd.M (Kd.int .i64) _ _ _ 0 [.int .i64 0] from rfl) (Reps.one (show Kd.M (Kd.int .i64) _ _ _ 0 [.int .i64 0] from rfl) (Reps.one (show Kd.M (Kd.int .i64) _ _ _ 0 [.int .i64 0] from rfl) (Reps.none _ _))))); intro v240 w29 ho30 hb hg_ hnew_; clear hg_ hnew_; (first | rw [← Ny239.out] at ho30 | (simp only [Int.reduceToNat] at ho30; rw [← Ny239.out] at ho30)); have n0 := aM_ (Kd.R_below (by (with_reducible repeat (first | apply rA_ | apply rN_ | apply rD_)); exact HO_4.out) hb); have n1 := aM_ (Kd.R_elder' (by (with_reducible repeat (first | apply rA_ | apply rN_ | apply rD_)); exact HO_5.out) (Kd.R_base ho30) hb); have n2 := aM_ (Kd.R_elder' (by (with_reducible repeat (first | apply rA_ | apply rN_ | apply rD_)); exact HO238.out) (Kd.R_base ho30) hb); have n3 := aM_ (Kd.R_lower (Kd.R_new' (Kd.R_new' ho30 (Kd.R_lt (by (with_reducible repeat (first | apply rA_ | apply rN_ | apply rD_)); exact HO_5.out))) (Kd.R_lt (by (with_reducible repeat (first | apply rA_ | apply rN_ | apply rD_)); exact HO238.out))) (below_size (by repeat (first | (with_reducible first | exact HB.out | apply hA_ | apply hN_ | apply hD_ | refine below_set ?_ GE218.out) | exact HB.out)))); have n4 := aM_ (blk_below (g := gb218) (o := .cells #[.int .i64 x2190_1, .int .i64 x2191_1, .int .i64 x2192_1, .int .i64 x2193_1, .int .i64 x2194_1] 32 (0, 0)) (by (with_reducible repeat (first | refine bN_ ?_ _ | refine bD_ ?_ | refine bA_ ?_ _)); exact BK218.out) hb); have n5 := aM_ (below_step (by repeat (first | (with_reducible first | exact HB.out | apply hA_ | apply hN_ | apply hD_ | refine below_set ?_ GE218.out) | exact HB.out)) hb); clear HO_4; clear HO_5; clear HO238; clear BK218; clear HB; have HO_4 := n0; have HO_5 := n1; have HO238 := n2; have HO241 := n3; have BK218 := n4; have HB := n5; clear n0 n1 n2 n3 n4 n5; clear hb ho30; obtain ⟨Ao32, co32, eo32⟩ := Kd.R_slice HO241.out; subst eo32) | ((with_reducible refine gate_builtin (b := .append) (xs := #[.tmp 40, .tmp 41]) rfl ?_); at_builtin; refine Kd.R_append_rows (Kd.int .i64) (w0 := w) w.heap.size rfl (.tmp 40) (.tmp 41) 35 3 (.int .i64 0) 8 rfl Tryd.underlying35 info3 rfl (by decide) (by omega) v237 t236 y239 _ _ _ (fun k_ => some k_ ≠ (.slice Ao27 x5_1.length co27 : Value).ownBlock ∧ some k_ ≠ (.slice Ao32 y239.length co32 : Value).ownBlock) (fun _ => False) rfl rfl ?aO ?aR (fun _ _ h => h) (fun _ h => h.elim) ?aF ?aB ?aS ?aL ?_; (case aR => repeat (first | exact (Kd.R_reads' HO241.out).2.2 | (with_reducible refine Kd.C_alloc ?_ _) | (with_reducible refine Kd.C_drewN ?_ _) | (with_reducible refine Kd.C_drew ?_))); (case aB => exact (by repeat (first | (with_reducible first | exact HB.out | apply hA_ | apply hN_ | apply hD_ | refine below_set ?_ GE218.out) | exact HB.out))); (case aF => exact (fun k_ hk => ⟨Kd.fresh' (Kd.R_lt (by (with_reducible repeat (first | apply rA_ | apply rN_ | apply rD_)); exact HO_5.out)) k_ hk, Kd.fresh' (Kd.R_lt (by (with_reducible repeat (first | apply rA_ | apply rN_ | apply rD_)); exact HO241.out)) k_ hk⟩)); (case aO => exact (by (with_reducible repeat (first | apply rA_ | apply rN_ | apply rD_)); exact Kd.R_mono HO238.out (fun _ hk => ⟨hk.1.2, hk.2⟩))); (case aS => exact (below_size (by repeat (first | (with_reducible first | exact HB.out | apply hA_ | apply hN_ | apply hD_ | refine below_set ?_ GE218.out) | exact HB.out)))); (case aL => have := LMc20.out; omega); intro v243 w31 ho hb hg hat; rw [← Ny242.out] at ho; have n0 := aM_ (Kd.R_over' (by (with_reducible repeat (first | apply rA_ | apply rN_ | apply rD_)); exact HO_4.out) (Kd.R_typed (by (with_reducible repeat (first | apply rA_ | apply rN_ | apply rD_)); exact HO238.out)) (by decide) hg); have n1 := aM_ (Kd.R_after (ok := (fun k_ => some k_ ≠ (.slice Ao32 y239.length co32 : Value).ownBlock)) (by (with_reducible repeat (first | apply rA_ | apply rN_ | apply rD_)); exact Kd.R_mono HO_5.out (fun _ hk => ⟨hk.2, hk.1.2⟩)) hg hat); have n2 := aM_ (blk_grown (g := gb218) (o := .cells #[.int .i64 x2190_1, .int .i64 x2191_1, .int .i64 x2192_1, .int .i64 x2193_1, .int .i64 x2194_1] 32 (0, 0)) (by (with_reducible repeat (first | refine bN_ ?_ _ | refine bD_ ?_ | refine bA_ ?_ _)); exact BK218.out) hg (Kd.R_ne HO238.out BK218.out (by decide))); have n3 := aM_ (Kd.R_after (ok := (fun k_ => some k_ ≠ (.slice Ao27 x5_1.length co27 : Value).ownBlock)) (by (with_reducible repeat (first | apply rA_ | apply rN_ | apply rD_)); exact Kd.R_mono HO241.out (fun _ hk => ⟨hk.1.2, hk.2⟩)) hg hat); have n4 := aM_ (hb); have n5 := aM_ (ho); clear HO_4; clear HO_5; clear BK218; clear HO241; clear HB; clear HO238; have HO_4 := n0; have HO_5 := n1; have BK218 := n2; have HO241 := n3; have HB := n4; have HO244 := n5; clear n0 n1 n2 n3 n4 n5; clear ho hb hg hat; obtain ⟨Ao33, co33, eo33⟩ := Kd.R_slice HO244.out; subst eo33; have p245 : 0 ≤ (0 : Int) := (by omega); have q245 : 0 < (y242.length : Int) := of_decide_eq_true (by first | (with_reducible assumption) | assumption); obtain ⟨ad245, e245, hx245_0⟩ := Kd.at_int (Kd.R_reads' HO244.out).2.2 0 p245 q245; cases e245; have qi245 : (0 < y242.length) = True := eq_true (by omega); (try rw [show ((0 : Int)).toNat = 0 from rfl] at hx245_0); (try rw [Addr.add_zero'] at hx245_0); replace p245 := eq_true p245; replace q245 := eq_true q245; have p246 : 0 ≤ (1 : Int) := (by omega); have q246 : 1 < (y242.length : Int) := of_decide_eq_true (by first | (with_reducible assumption) | assumption); obtain ⟨ad246, e246, hx246_0⟩ := Kd.at_int (Kd.R_reads' HO244.out).2.2 1 p246 q246; obtain rfl : ad245 = ad246 := (by injection e246); (try simp only [show (1 : Int).toNat = 1 from rfl, Nat.reduceMul, Nat.reduceEqDiff, Go.Addr.add, ↓reduceIte] at hx246_0); have qi246 : (1 < y242.length) = True := eq_true (by omega); (try rw [show ((1 : Int)).toNat = 1 from rfl] at hx246_0); replace p246 := eq_true p246; replace q246 := eq_true q246; have p247 : 0 ≤ (2 : Int) := (by omega); have q247 : 2 < (y242.length : Int) := of_decide_eq_true (by first | (with_reducible assumption) | assumption); obtain ⟨ad247, e247, hx247_0⟩ := Kd.at_int (Kd.R_reads' HO244.out).2.2 2 p247 q247; obtain rfl : ad245 = ad247 := (by injection e247); (try simp only [show (2 : Int).toNat = 2 from rfl, Nat.reduceMul, Nat.reduceEqDiff, Go.Addr.add, ↓reduceIte] at hx247_0); have qi247 : (2 < y242.length) = True := eq_true (by omega); (try rw [show ((2 : Int)).toNat = 2 from rfl] at hx247_0); replace p247 := eq_true p247; replace q247 := eq_true q247; have p248 : 0 ≤ (0 : Int) := (by omega); have q248 : 0 < (t219.length : Int) := of_decide_eq_true (by first | (with_reducible assumption) | assumption); obtain ⟨ad248, e248, hx248_0⟩ := Kd.at_string (Kd.R_reads' HO_4.out).2.2 0 p248 q248; cases e248; have qi248 : (0 < t219.length) = True := eq_true (by omega); (try rw [show ((0 : Int)).toNat = 0 from rfl] at hx248_0); (try rw [Addr.add_zero'] at hx248_0); replace p248 := eq_true p248; replace q248 := eq_true q248) | (go_at_call 104; (with_reducible refine (impl_opOf.calls k1 (rdOf ByteArray.empty t219 0) t249 _ A25.out).mono ?_); rintro e w34 ⟨rfl, hb⟩; have n0 := aM_ (Kd.R_below (by (with_reducible repeat (first | apply rA_ | apply rN_ | apply rD_)); exact HO_4.out) hb); have n1 := aM_ (Kd.R_below (by (with_reducible repeat (first | apply rA_ | apply rN_ | apply rD_)); exact HO_5.out) hb); have n2 := aM_ (Kd.R_below (by (with_reducible repeat (first | apply rA_ | apply rN_ | apply rD_)); exact HO241.out) hb); have n3 := aM_ (Kd.R_below (by (with_reducible repeat (first | apply rA_ | apply rN_ | apply rD_)); exact HO244.out) hb); have n4 := aM_ (blk_below (g := gb218) (o := .cells #[.int .i64 x2190_1, .int .i64 x2191_1, .int .i64 x2192_1, .int .i64 x2193_1, .int .i64 x2194_1] 32 (0, 0)) (by (with_reducible repeat (first | refine bN_ ?_ _ | refine bD_ ?_ | refine bA_ ?_ _)); exact BK218.out) hb); have n5 := aM_ (below_step (by repeat (first | (with_reducible first | exact HB.out | apply hA_ | apply hN_ | apply hD_ | refine below_set ?_ GE218.out) | exact HB.out)) hb); clear HO_4; clear HO_5; clear HO241; clear HO244; clear BK218; clear HB; have HO_4 := n0; have HO_5 := n1; have HO241 := n2; have HO244 := n3; have BK218 := n4; have HB := n5; clear n0 n1 n2 n3 n4 n5) | ((with_reducible refine gate_dst (N := 14) rfl ?_); refine box_event ?hg (N := 14) ?hd (cs := #[.int .i64 0, .int .i64 0, .int .i64 0, .int .i64 0, .int .i64 0]) (t := 32) ?hr ?_; (case hd => rfl); (case hg => rfl); (case hr => first | (go_simp; done) | (go_simp; rfl)); intro gb250 hg w35 hbox hb; have n0 := aM_ (Kd.R_below (by (with_reducible repeat (first | apply rA_ | apply rN_ | apply rD_)); exact HO_4.out) hb); have n1 := aM_ (Kd.R_below (by (with_reducible repeat (first | apply rA_ | apply rN_ | apply rD_)); exact HO_5.out) hb); have n2 := aM_ (Kd.R_below (by (with_reducible repeat (first | apply rA_ | apply rN_ | apply rD_)); exact HO241.out) hb); have n3 := aM_ (Kd.R_below (by (with_reducible repeat (first | apply rA_ | apply rN_ | apply rD_)); exact HO244.out) hb); have n4 := aM_ (blk_below (g := gb218) (o := .cells #[.int .i64 x2190_1, .int .i64 x2191_1, .int .i64 x2192_1, .int .i64 x2193_1, .int .i64 x2194_1] 32 (0, 0)) (by (with_reducible repeat (first | refine bN_ ?_ _ | refine bD_ ?_ | refine bA_ ?_ _)); exact BK218.out) hb); have n5 := aM_ (below_step (by repeat (first | (with_reducible first | exact HB.out | apply hA_ | apply hN_ | apply hD_ | refine below_set ?_ GE218.out) | exact HB.out)) hb); have n6 := aM_ (hbox); have n7 := aM_ ((by rw [hg]; exact (below_size (by repeat (first | (with_reducible first | exact HB.out | apply hA_ | apply hN_ | apply hD_ | refine below_set ?_ GE218.out) | exact HB.out))) : w.heap.size ≤ gb250)); have n8 := aM_ ((by rw [hg]; exact (below_size (by repeat (first | (with_reducible first | exact HB.out | apply hA_ | apply hN_ | apply hD_ | refine below_set ?_ GE218.out) | exact HB.out))) : w.heap.size ≤ gb250)); have n9 := aM_ ((by rw [hg]; exact Nat.ne_of_lt (blk_lt (g := gb218) (o := .cells #[.int .i64 x2190_1, .int .i64 x2191_1, .int .i64 x2192_1, .int .i64 x2193_1, .int .i64 x2194_1] 32 (0, 0)) (by (with_reducible repeat (first | refine bN_ ?_ _ | refine bD_ ?_ | refine bA_ ?_ _)); exact BK218.out)) : gb218 ≠ gb250)); have n10 := aM_ ((by rw [hg]; exact Nat.ne_of_gt (blk_lt (g := gb218) (o := .cells #[.int .i64 x2190_1, .int .i64 x2191_1, .int .i64 x2192_1, .int .i64 x2193_1, .int .i64 x2194_1] 32 (0, 0)) (by (with_reducible repeat (first | refine bN_ ?_ _ | refine bD_ ?_ | refine bA_ ?_ _)); exact BK218.out)) : gb250 ≠ gb218)); clear HO_4; clear HO_5; clear HO241; clear HO244; clear BK218; clear HB; have HO_4 := n0; have HO_5 := n1; have HO241 := n2; have HO244 := n3; have BK218 := n4; have HB := n5; have BK250 := n6; have GW250 := n7; have GE250 := n8; have NB218_250 := n9; have NB250_218 := n10; clear n0 n1 n2 n3 n4 n5 n6 n7 n8 n9 n10; clear hb hbox hg; have hnb36 := NB250_218.out; have hnc36 := NB218_250.out; have hcz37_0 : w35.cell? ⟨gb250, 0, none⟩ = some (.int .i64 0) := (blk_cell BK250.out 0).trans rfl; have hcz37_1 : w35.cell? ⟨gb250, 1, none⟩ = some (.int .i64 0) := (blk_cell BK250.out 1).trans rfl; have hcz37_2 : w35.cell? ⟨gb250, 2, none⟩ = some (.int .i64 0) := (blk_cell BK250.out 2).trans rfl; have hcz37_3 : w35.cell? ⟨gb250, 3, none⟩ = some (.int .i64 0) := (blk_cell BK250.out 3).trans rfl; have hcz37_4 : w35.cell? ⟨gb250, 4, none⟩ = some (.int .i64 0) := (blk_cell BK250.out 4).trans rfl; have hfz37_0 := blk_frozen BK250.out 0; have hfz37_1 := blk_frozen BK250.out 1; have hfz37_2 := blk_frozen BK250.out 2; have hfz37_3 := blk_frozen BK250.out 3; have hfz37_4 := blk_frozen BK250.out 4)))
          (try simp only [Act.put, List.setIfInBounds_toArray, List.set_cons_zero, List.set_cons_succ])
          go_cut [] (fun wc => ∃ (kq : Nat) (x2511_25 : Int) (x2512_25 : Int) (x2513_25 : Int) (x2514_25 : Int), Aside0 (impl_InsRead.j4 kq a0 t249 x2511_25 x2512_25 x2513_25 x2514_25 = some (r1, r2, r3, r4, r5, r6)) ∧ Aside0 (kq ≤ k1) ∧ Aside0 (wc.heap[gb218]? = some (.cells #[.int .i64 x2190_1, .int .i64 x2191_1, .int .i64 x2192_1, .int .i64 x2193_1, .int .i64 x2194_1] 32 (0, 0))) ∧ Aside0 (wc.heap[gb250]? = some (.cells #[.int .i64 t249, .int .i64 x2511_25, .int .i64 x2512_25, .int .i64 x2513_25, .int .i64 x2514_25] 32 (0, 0))) ∧ Aside0 (Below w.heap.size w wc))
          case first =>
           have H := HC26.out
           clear HC26
           by_cases c38 : t249 = 1
           ·rw [if_pos c38] at H
            have c38b0 : (t249 == 1) = true := beq_iff_eq.mpr c38
            have c38b1 : (t249 != 1) = false := bne_eq_false_iff_eq.mpr c38
            clear c38
            (first | rw [c38b0] | (simp only [i64_w, i32_w]; rw [c38b0]) | skip)
            have H' := aM_ H
            clear H
            have hnb39 := NB250_218.out
            have hnc39 := NB218_250.out
            have hcz40_0 : w35.cell? ⟨gb250, 0, none⟩ = some (.int .i64 0) := (blk_cell BK250.out 0).trans rfl
            have hcz40_1 : w35.cell? ⟨gb250, 1, none⟩ = some (.int .i64 0) := (blk_cell BK250.out 1).trans rfl
            have hcz40_2 : w35.cell? ⟨gb250, 2, none⟩ = some (.int .i64 0) := (blk_cell BK250.out 2).trans rfl
            have hcz40_3 : w35.cell? ⟨gb250, 3, none⟩ = some (.int .i64 0) := (blk_cell BK250.out 3).trans rfl
            have hcz40_4 : w35.cell? ⟨gb250, 4, none⟩ = some (.int .i64 0) := (blk_cell BK250.out 4).trans rfl
            have hfz40_0 := blk_frozen BK250.out 0
            have hfz40_1 := blk_frozen BK250.out 1
            have hfz40_2 := blk_frozen BK250.out 2
            have hfz40_3 := blk_frozen BK250.out 3
            have hfz40_4 := blk_frozen BK250.out 4
            go_wp2
            repeat (go_quiet (fail); try go_wp2)
            go_meet
            case rel => exact ⟨_, (rd y242 0), (0), (0), (rd y242 1), H', ⟨by have := HK1.out; first | omega | exact Nat.le_refl _⟩, ⟨by (with_reducible repeat (first | refine bN_ ?_ _ | refine bD_ ?_ | refine bA_ ?_ _)); refine blk_far ?_ NB218_250.out _; (with_reducible repeat (first | refine bN_ ?_ _ | refine bD_ ?_ | refine bA_ ?_ _)); refine blk_far ?_ NB218_250.out _; (with_reducible repeat (first | refine bN_ ?_ _ | refine bD_ ?_ | refine bA_ ?_ _)); refine blk_far ?_ NB218_250.out _; (with_reducible repeat (first | refine bN_ ?_ _ | refine bD_ ?_ | refine bA_ ?_ _)); refine blk_far ?_ NB218_250.out _; (with_reducible repeat (first | refine bN_ ?_ _ | refine bD_ ?_ | refine bA_ ?_ _)); refine blk_far ?_ NB218_250.out _; (with_reducible repeat (first | refine bN_ ?_ _ | refine bD_ ?_ | refine bA_ ?_ _)); refine blk_far ?_ NB218_250.out _; (with_reducible repeat (first | refine bN_ ?_ _ | refine bD_ ?_ | refine bA_ ?_ _)); refine blk_far ?_ NB218_250.out _; (with_reducible repeat (first | refine bN_ ?_ _ | refine bD_ ?_ | refine bA_ ?_ _)); exact BK218.out⟩, ⟨by (with_reducible repeat (first | refine bN_ ?_ _ | refine bD_ ?_ | refine bA_ ?_ _)); refine blk_put (cs := #[.int .i64 t249, .int .i64 (rd y242 0), .int .i64 0, .int .i64 0, .int .i64 0]) ?_ 4 _ rfl; (with_reducible repeat (first | refine bN_ ?_ _ | refine bD_ ?_ | refine bA_ ?_ _)); refine blk_put (cs := #[.int .i64 t249, .int .i64 0, .int .i64 0, .int .i64 0, .int .i64 0]) ?_ 1 _ rfl; (with_reducible repeat (first | refine bN_ ?_ _ | refine bD_ ?_ | refine bA_ ?_ _)); refine blk_put (cs := #[.int .i64 t249, .int .i64 0, .int .i64 0, .int .i64 0, .int .i64 0]) ?_ 4 _ rfl; (with_reducible repeat (first | refine bN_ ?_ _ | refine bD_ ?_ | refine bA_ ?_ _)); refine blk_put (cs := #[.int .i64 t249, .int .i64 0, .int .i64 0, .int .i64 0, .int .i64 0]) ?_ 3 _ rfl; (with_reducible repeat (first | refine bN_ ?_ _ | refine bD_ ?_ | refine bA_ ?_ _)); refine blk_put (cs := #[.int .i64 t249, .int .i64 0, .int .i64 0, .int .i64 0, .int .i64 0]) ?_ 2 _ rfl; (with_reducible repeat (first | refine bN_ ?_ _ | refine bD_ ?_ | refine bA_ ?_ _)); refine blk_put (cs := #[.int .i64 t249, .int .i64 0, .int .i64 0, .int .i64 0, .int .i64 0]) ?_ 1 _ rfl; (with_reducible repeat (first | refine bN_ ?_ _ | refine bD_ ?_ | refine bA_ ?_ _)); refine blk_put (cs := #[.int .i64 0, .int .i64 0, .int .i64 0, .int .i64 0, .int .i64 0]) ?_ 0 _ rfl; (with_reducible repeat (first | refine bN_ ?_ _ | refine bD_ ?_ | refine bA_ ?_ _)); exact BK250.out⟩, ⟨by repeat (first | (with_reducible first | exact HB.out | apply hA_ | apply hN_ | apply hD_ | refine below_set ?_ GE218.out | refine below_set ?_ GE250.out) | exact HB.out)⟩⟩
           ·rw [if_neg c38] at H
            have c38b0 : (t249 == 1) = false := beq_eq_false_iff_ne.mpr c38
            have c38b1 : (t249 != 1) = true := bne_iff_ne.mpr c38
            (first | rw [c38b0] | (simp only [i64_w, i32_w]; rw [c38b0]) | skip)
            have HC41 := aM_ H
            clear H
            go_upto_if 65 with (fail)
            repeat (go_quiet (fail); go_upto_if 65 with (fail))
            go_cut [65] (fun v65 wc => ∃ (kq : Nat) (x65_40 : Bool), v65 = .bool x65_40 ∧ Aside0 (impl_InsRead.j1 kq a0 (rd y242 0) (rd y242 1) (rd y242 2) t249 x65_40 t249 0 0 0 0 = some (r1, r2, r3, r4, r5, r6)) ∧ Aside0 (kq ≤ k1) ∧ Aside0 (wc.heap[gb218]? = some (.cells #[.int .i64 x2190_1, .int .i64 x2191_1, .int .i64 x2192_1, .int .i64 x2193_1, .int .i64 x2194_1] 32 (0, 0))) ∧ Aside0 (wc.heap[gb250]? = some (.cells #[.int .i64 t249, .int .i64 0, .int .i64 0, .int .i64 0, .int .i64 0] 32 (0, 0))) ∧ Aside0 (Below w.heap.size w wc))
            case first =>
             have H := HC41.out
             clear HC41
             by_cases c42 : t249 = 2
             ·rw [if_pos c42] at H
              have c42b0 : (t249 == 2) = true := beq_iff_eq.mpr c42
              have c42b1 : (t249 != 2) = false := bne_eq_false_iff_eq.mpr c42
              clear c42
              (first | rw [c42b0] | (simp only [i64_w, i32_w]; rw [c42b0]) | skip)
              have H' := aM_ H
              clear H
              go_wp2
              repeat (go_quiet (fail); try go_wp2)
              go_meet
              case rel => exact ⟨_, ((t249 == 2)), (by first | rfl | (simp; done) | (simp [*]; done)), H', ⟨by have := HK1.out; first | omega | exact Nat.le_refl _⟩, ⟨by (with_reducible repeat (first | refine bN_ ?_ _ | refine bD_ ?_ | refine bA_ ?_ _)); refine blk_far ?_ NB218_250.out _; (with_reducible repeat (first | refine bN_ ?_ _ | refine bD_ ?_ | refine bA_ ?_ _)); refine blk_far ?_ NB218_250.out _; (with_reducible repeat (first | refine bN_ ?_ _ | refine bD_ ?_ | refine bA_ ?_ _)); refine blk_far ?_ NB218_250.out _; (with_reducible repeat (first | refine bN_ ?_ _ | refine bD_ ?_ | refine bA_ ?_ _)); refine blk_far ?_ NB218_250.out _; (with_reducible repeat (first | refine bN_ ?_ _ | refine bD_ ?_ | refine bA_ ?_ _)); refine blk_far ?_ NB218_250.out _; (with_reducible repeat (first | refine bN_ ?_ _ | refine bD_ ?_ | refine bA_ ?_ _)); exact BK218.out⟩, ⟨by (with_reducible repeat (first | refine bN_ ?_ _ | refine bD_ ?_ | refine bA_ ?_ _)); refine blk_put (cs := #[.int .i64 t249, .int .i64 0, .int .i64 0, .int .i64 0, .int .i64 0]) ?_ 4 _ rfl; (with_reducible repeat (first | refine bN_ ?_ _ | refine bD_ ?_ | refine bA_ ?_ _)); refine blk_put (cs := #[.int .i64 t249, .int .i64 0, .int .i64 0, .int .i64 0, .int .i64 0]) ?_ 3 _ rfl; (with_reducible repeat (first | refine bN_ ?_ _ | refine bD_ ?_ | refine bA_ ?_ _)); refine blk_put (cs := #[.int .i64 t249, .int .i64 0, .int .i64 0, .int .i64 0, .int .i64 0]) ?_ 2 _ rfl; (with_reducible repeat (first | refine bN_ ?_ _ | refine bD_ ?_ | refine bA_ ?_ _)); refine blk_put (cs := #[.int .i64 t249, .int .i64 0, .int .i64 0, .int .i64 0, .int .i64 0]) ?_ 1 _ rfl; (with_reducible repeat (first | refine bN_ ?_ _ | refine bD_ ?_ | refine bA_ ?_ _)); refine blk_put (cs := #[.int .i64 0, .int .i64 0, .int .i64 0, .int .i64 0, .int .i64 0]) ?_ 0 _ rfl; (with_reducible repeat (first | refine bN_ ?_ _ | refine bD_ ?_ | refine bA_ ?_ _)); exact BK250.out⟩, ⟨by repeat (first | (with_reducible first | exact HB.out | apply hA_ | apply hN_ | apply hD_ | refine below_set ?_ GE218.out | refine below_set ?_ GE250.out) | exact HB.out)⟩⟩
             ·rw [if_neg c42] at H
              have c42b0 : (t249 == 2) = false := beq_eq_false_iff_ne.mpr c42
              have c42b1 : (t249 != 2) = true := bne_iff_ne.mpr c42
              (first | rw [c42b0] | (simp only [i64_w, i32_w]; rw [c42b0]) | skip)
              by_cases c43 : t249 = 3
              ·rw [if_pos c43] at H
               have c43b0 : (t249 == 3) = true := beq_iff_eq.mpr c43
               have c43b1 : (t249 != 3) = false := bne_eq_false_iff_eq.mpr c43
               clear c43
               have H' := aM_ H
               clear H
               go_wp2
               repeat (go_quiet (fail); try go_wp2)
               go_meet
               case rel => exact ⟨_, ((t249 == 3)), (by first | rfl | (simp; done) | (simp [*]; done)), H', ⟨by have := HK1.out; first | omega | exact Nat.le_refl _⟩, ⟨by (with_reducible repeat (first | refine bN_ ?_ _ | refine bD_ ?_ | refine bA_ ?_ _)); refine blk_far ?_ NB218_250.out _; (with_reducible repeat (first | refine bN_ ?_ _ | refine bD_ ?_ | refine bA_ ?_ _)); refine blk_far ?_ NB218_250.out _; (with_reducible repeat (first | refine bN_ ?_ _ | refine bD_ ?_ | refine bA_ ?_ _)); refine blk_far ?_ NB218_250.out _; (with_reducible repeat (first | refine bN_ ?_ _ | refine bD_ ?_ | refine bA_ ?_ _)); refine blk_far ?_ NB218_250.out _; (with_reducible repeat (first | refine bN_ ?_ _ | refine bD_ ?_ | refine bA_ ?_ _)); refine blk_far ?_ NB218_250.out _; (with_reducible repeat (first | refine bN_ ?_ _ | refine bD_ ?_ | refine bA_ ?_ _)); exact BK218.out⟩, ⟨by (with_reducible repeat (first | refine bN_ ?_ _ | refine bD_ ?_ | refine bA_ ?_ _)); refine blk_put (cs := #[.int .i64 t249, .int .i64 0, .int .i64 0, .int .i64 0, .int .i64 0]) ?_ 4 _ rfl; (with_reducible repeat (first | refine bN_ ?_ _ | refine bD_ ?_ | refine bA_ ?_ _)); refine blk_put (cs := #[.int .i64 t249, .int .i64 0, .int .i64 0, .int .i64 0, .int .i64 0]) ?_ 3 _ rfl; (with_reducible repeat (first | refine bN_ ?_ _ | refine bD_ ?_ | refine bA_ ?_ _)); refine blk_put (cs := #[.int .i64 t249, .int .i64 0, .int .i64 0, .int .i64 0, .int .i64 0]) ?_ 2 _ rfl; (with_reducible repeat (first | refine bN_ ?_ _ | refine bD_ ?_ | refine bA_ ?_ _)); refine blk_put (cs := #[.int .i64 t249, .int .i64 0, .int .i64 0, .int .i64 0, .int .i64 0]) ?_ 1 _ rfl; (with_reducible repeat (first | refine bN_ ?_ _ | refine bD_ ?_ | refine bA_ ?_ _)); refine blk_put (cs := #[.int .i64 0, .int .i64 0, .int .i64 0, .int .i64 0, .int .i64 0]) ?_ 0 _ rfl; (with_reducible repeat (first | refine bN_ ?_ _ | refine bD_ ?_ | refine bA_ ?_ _)); exact BK250.out⟩, ⟨by repeat (first | (with_reducible first | exact HB.out | apply hA_ | apply hN_ | apply hD_ | refine below_set ?_ GE218.out | refine below_set ?_ GE250.out) | exact HB.out)⟩⟩
              ·rw [if_neg c43] at H
               have c43b0 : (t249 == 3) = false := beq_eq_false_iff_ne.mpr c43
               have c43b1 : (t249 != 3) = true := bne_iff_ne.mpr c43
               have H' := aM_ H
               clear H
               go_wp2
               repeat (go_quiet (fail); try go_wp2)
               go_meet
               case rel => exact ⟨_, ((t249 == 4)), (by first | rfl | (simp; done) | (simp [*]; done)), H', ⟨by have := HK1.out; first | omega | exact Nat.le_refl _⟩, ⟨by (with_reducible repeat (first | refine bN_ ?_ _ | refine bD_ ?_ | refine bA_ ?_ _)); refine blk_far ?_ NB218_250.out _; (with_reducible repeat (first | refine bN_ ?_ _ | refine bD_ ?_ | refine bA_ ?_ _)); refine blk_far ?_ NB218_250.out _; (with_reducible repeat (first | refine bN_ ?_ _ | refine bD_ ?_ | refine bA_ ?_ _)); refine blk_far ?_ NB218_250.out _; (with_reducible repeat (first | refine bN_ ?_ _ | refine bD_ ?_ | refine bA_ ?_ _)); refine blk_far ?_ NB218_250.out _; (with_reducible repeat (first | refine bN_ ?_ _ | refine bD_ ?_ | refine bA_ ?_ _)); refine blk_far ?_ NB218_250.out _; (with_reducible repeat (first | refine bN_ ?_ _ | refine bD_ ?_ | refine bA_ ?_ _)); exact BK218.out⟩, ⟨by (with_reducible repeat (first | refine bN_ ?_ _ | refine bD_ ?_ | refine bA_ ?_ _)); refine blk_put (cs := #[.int .i64 t249, .int .i64 0, .int .i64 0, .int .i64 0, .int .i64 0]) ?_ 4 _ rfl; (with_reducible repeat (first | refine bN_ ?_ _ | refine bD_ ?_ | refine bA_ ?_ _)); refine blk_put (cs := #[.int .i64 t249, .int .i64 0, .int .i64 0, .int .i64 0, .int .i64 0]) ?_ 3 _ rfl; (with_reducible repeat (first | refine bN_ ?_ _ | refine bD_ ?_ | refine bA_ ?_ _)); refine blk_put (cs := #[.int .i64 t249, .int .i64 0, .int .i64 0, .int .i64 0, .int .i64 0]) ?_ 2 _ rfl; (with_reducible repeat (first | refine bN_ ?_ _ | refine bD_ ?_ | refine bA_ ?_ _)); refine blk_put (cs := #[.int .i64 t249, .int .i64 0, .int .i64 0, .int .i64 0, .int .i64 0]) ?_ 1 _ rfl; (with_reducible repeat (first | refine bN_ ?_ _ | refine bD_ ?_ | refine bA_ ?_ _)); refine blk_put (cs := #[.int .i64 0, .int .i64 0, .int .i64 0, .int .i64 0, .int .i64 0]) ?_ 0 _ rfl; (with_reducible repeat (first | refine bN_ ?_ _ | refine bD_ ?_ | refine bA_ ?_ _)); exact BK250.out⟩, ⟨by repeat (first | (with_reducible first | exact HB.out | apply hA_ | apply hN_ | apply hD_ | refine below_set ?_ GE218.out | refine below_set ?_ GE250.out) | exact HB.out)⟩⟩
            case rest =>
             clear HC41
             try clear c1
             try clear c2
             try clear p2
             try clear q2
             try clear hx2
             try clear qi2
             try clear c3
             try clear c3b0
             try clear c3b1
             try clear c4
             try clear c5
             try clear p6
             try clear c8
             try clear q8
             try clear c10
             try clear c10b0
             try clear c11
             try clear c11b0
             try clear c12
             try clear c12b0
             try clear c14
             try clear c20
             try clear c21
             try clear c21b0
             try clear c21b1
             try clear c22
             try clear c22b0
             try clear c22b1
             try clear p22
             try clear q22
             try clear hx22
             try clear c23
             try clear c23b0
             try clear c23b1
             try clear q23
             try clear c24
             try clear c24b0
             try clear c24b1
             try clear p24
             try clear q24
             try clear hx24
             try clear qi24
             try clear c36
             try clear c38
             try clear c38b0
             try clear c38b1
             try clear c39
             try clear c42
             try clear c42b0
             try clear c42b1
             try clear c43
             try clear c43b0
             try clear c43b1
             try clear hcz18_0
             try clear hcz18_1
             try clear hcz18_2
             try clear hcz18_3
             try clear hcz18_4
             try clear hcz37_0
             try clear hcz37_1
             try clear hcz37_2
             try clear hcz37_3
             try clear hcz37_4
             try clear hcz40_0
             try clear hcz40_1
             try clear hcz40_2
             try clear hcz40_3
             try clear hcz40_4
             try clear hfz18_0
             try clear hfz18_1
             try clear hfz18_2
             try clear hfz18_3
             try clear hfz18_4
             try clear hfz37_0
             try clear hfz37_1
             try clear hfz37_2
             try clear hfz37_3
             try clear hfz37_4
             try clear hfz40_0
             try clear hfz40_1
             try clear hfz40_2
             try clear hfz40_3
             try clear hfz40_4
             try clear hx229_0
             try clear hx245_0
             try clear hx246_0
             try clear hx247_0
             try clear hx248_0
             try clear p2
             try clear p229
             try clear p245
             try clear p246
             try clear p247
             try clear p248
             try clear q229
             try clear q232
             try clear q245
             try clear q246
             try clear q247
             try clear q248
             try clear q8
             obtain ⟨kq, x65_40, rfl, HA, HJ40, BK218, BK250, HB⟩ := hcut
             cases kq with
             | zero => exact absurd HA.out (by simp [impl_InsRead.j1])
             | succ kj40 =>
              have H := HA.out
              clear HA
              simp only [impl_InsRead.j1] at H
              by_cases c44 : x65_40 = true
              ·subst c44
               have H1 : (impl_InsRead.j4 kj40 a0 t249 (rd y242 0) (rd y242 1) (rd y242 2) 0) = some (r1, r2, r3, r4, r5, r6) := by rw [if_pos rfl] at H; exact H
               clear H
               have H := H1
               clear H1
               have H' := aM_ H
               clear H
               have hnb45 := NB250_218.out
               have hnc45 := NB218_250.out
               have hcz46_0 : wc.cell? ⟨gb250, 0, none⟩ = some (.int .i64 t249) := (blk_cell BK250.out 0).trans rfl
               have hcz46_1 : wc.cell? ⟨gb250, 1, none⟩ = some (.int .i64 0) := (blk_cell BK250.out 1).trans rfl
               have hcz46_2 : wc.cell? ⟨gb250, 2, none⟩ = some (.int .i64 0) := (blk_cell BK250.out 2).trans rfl
               have hcz46_3 : wc.cell? ⟨gb250, 3, none⟩ = some (.int .i64 0) := (blk_cell BK250.out 3).trans rfl
               have hcz46_4 : wc.cell? ⟨gb250, 4, none⟩ = some (.int .i64 0) := (blk_cell BK250.out 4).trans rfl
               have hfz46_0 := blk_frozen BK250.out 0
               have hfz46_1 := blk_frozen BK250.out 1
               have hfz46_2 := blk_frozen BK250.out 2
               have hfz46_3 := blk_frozen BK250.out 3
               have hfz46_4 := blk_frozen BK250.out 4
               go_wp2
               repeat (go_quiet (fail); try go_wp2)
               go_meet
               case rel => exact ⟨_, ((rd y242 0)), ((rd y242 1)), ((rd y242 2)), (0), H', ⟨by have := HK1.out; have := HJ40.out; first | omega | exact Nat.le_refl _⟩, ⟨by (with_reducible repeat (first | refine bN_ ?_ _ | refine bD_ ?_ | refine bA_ ?_ _)); refine blk_far ?_ NB218_250.out _; (with_reducible repeat (first | refine bN_ ?_ _ | refine bD_ ?_ | refine bA_ ?_ _)); refine blk_far ?_ NB218_250.out _; (with_reducible repeat (first | refine bN_ ?_ _ | refine bD_ ?_ | refine bA_ ?_ _)); refine blk_far ?_ NB218_250.out _; (with_reducible repeat (first | refine bN_ ?_ _ | refine bD_ ?_ | refine bA_ ?_ _)); exact BK218.out⟩, ⟨by (with_reducible repeat (first | refine bN_ ?_ _ | refine bD_ ?_ | refine bA_ ?_ _)); refine blk_put (cs := #[.int .i64 t249, .int .i64 (rd y242 0), .int .i64 (rd y242 1), .int .i64 0, .int .i64 0]) ?_ 3 _ rfl; (with_reducible repeat (first | refine bN_ ?_ _ | refine bD_ ?_ | refine bA_ ?_ _)); refine blk_put (cs := #[.int .i64 t249, .int .i64 (rd y242 0), .int .i64 0, .int .i64 0, .int .i64 0]) ?_ 2 _ rfl; (with_reducible repeat (first | refine bN_ ?_ _ | refine bD_ ?_ | refine bA_ ?_ _)); refine blk_put (cs := #[.int .i64 t249, .int .i64 0, .int .i64 0, .int .i64 0, .int .i64 0]) ?_ 1 _ rfl; (with_reducible repeat (first | refine bN_ ?_ _ | refine bD_ ?_ | refine bA_ ?_ _)); exact BK250.out⟩, ⟨by repeat (first | (with_reducible first | exact HB.out | apply hA_ | apply hN_ | apply hD_ | refine below_set ?_ GE218.out | refine below_set ?_ GE250.out) | exact HB.out)⟩⟩
              ·replace c44 := Bool.eq_false_iff.mpr c44
               subst c44
               have H1 : (if t249 = 5 then (impl_InsRead.j4 kj40 a0 t249 0 (rd y242 1) 0 (rd y242 0)) else (if t249 = 6 then (impl_InsRead.j2 kj40 a0 (rd y242 0) (rd y242 1) (rd y242 2) t249 (t249 == 6) t249 0 0 0 0) else (impl_InsRead.j2 kj40 a0 (rd y242 0) (rd y242 1) (rd y242 2) t249 (t249 == 8) t249 0 0 0 0))) = some (r1, r2, r3, r4, r5, r6) := by rw [if_neg (show ¬ (false = true) by decide)] at H; exact H
               clear H
               have H := H1
               clear H1
               by_cases c47 : t249 = 5
               ·rw [if_pos c47] at H
                have c47b0 : (t249 == 5) = true := beq_iff_eq.mpr c47
                have c47b1 : (t249 != 5) = false := bne_eq_false_iff_eq.mpr c47
                clear c47
                have H' := aM_ H
                clear H
                have hnb48 := NB250_218.out
                have hnc48 := NB218_250.out
                have hcz49_0 : wc.cell? ⟨gb250, 0, none⟩ = some (.int .i64 t249) := (blk_cell BK250.out 0).trans rfl
                have hcz49_1 : wc.cell? ⟨gb250, 1, none⟩ = some (.int .i64 0) := (blk_cell BK250.out 1).trans rfl
                have hcz49_2 : wc.cell? ⟨gb250, 2, none⟩ = some (.int .i64 0) := (blk_cell BK250.out 2).trans rfl
                have hcz49_3 : wc.cell? ⟨gb250, 3, none⟩ = some (.int .i64 0) := (blk_cell BK250.out 3).trans rfl
                have hcz49_4 : wc.cell? ⟨gb250, 4, none⟩ = some (.int .i64 0) := (blk_cell BK250.out 4).trans rfl
                have hfz49_0 := blk_frozen BK250.out 0
                have hfz49_1 := blk_frozen BK250.out 1
                have hfz49_2 := blk_frozen BK250.out 2
                have hfz49_3 := blk_frozen BK250.out 3
                have hfz49_4 := blk_frozen BK250.out 4
                go_wp2
                repeat (go_quiet (fail); try go_wp2)
                go_meet
                case rel => exact ⟨_, (0), ((rd y242 1)), (0), ((rd y242 0)), H', ⟨by have := HK1.out; have := HJ40.out; first | omega | exact Nat.le_refl _⟩, ⟨by (with_reducible repeat (first | refine bN_ ?_ _ | refine bD_ ?_ | refine bA_ ?_ _)); refine blk_far ?_ NB218_250.out _; (with_reducible repeat (first | refine bN_ ?_ _ | refine bD_ ?_ | refine bA_ ?_ _)); refine blk_far ?_ NB218_250.out _; (with_reducible repeat (first | refine bN_ ?_ _ | refine bD_ ?_ | refine bA_ ?_ _)); exact BK218.out⟩, ⟨by (with_reducible repeat (first | refine bN_ ?_ _ | refine bD_ ?_ | refine bA_ ?_ _)); refine blk_put (cs := #[.int .i64 t249, .int .i64 0, .int .i64 0, .int .i64 0, .int .i64 (rd y242 0)]) ?_ 2 _ rfl; (with_reducible repeat (first | refine bN_ ?_ _ | refine bD_ ?_ | refine bA_ ?_ _)); refine blk_put (cs := #[.int .i64 t249, .int .i64 0, .int .i64 0, .int .i64 0, .int .i64 0]) ?_ 4 _ rfl; (with_reducible repeat (first | refine bN_ ?_ _ | refine bD_ ?_ | refine bA_ ?_ _)); exact BK250.out⟩, ⟨by repeat (first | (with_reducible first | exact HB.out | apply hA_ | apply hN_ | apply hD_ | refine below_set ?_ GE218.out | refine below_set ?_ GE250.out) | exact HB.out)⟩⟩
               ·rw [if_neg c47] at H
                have c47b0 : (t249 == 5) = false := beq_eq_false_iff_ne.mpr c47
                have c47b1 : (t249 != 5) = true := bne_iff_ne.mpr c47
                have HC50 := aM_ H
                clear H
                go_upto_if 81 with (fail)
                repeat (go_quiet (fail); go_upto_if 81 with (fail))
                go_cut [81] (fun v81 wc => ∃ (kq : Nat) (x81_49 : Bool), v81 = .bool x81_49 ∧ Aside0 (impl_InsRead.j2 kq a0 (rd y242 0) (rd y242 1) (rd y242 2) t249 x81_49 t249 0 0 0 0 = some (r1, r2, r3, r4, r5, r6)) ∧ Aside0 (kq ≤ kj40) ∧ Aside0 (wc.heap[gb218]? = some (.cells #[.int .i64 x2190_1, .int .i64 x2191_1, .int .i64 x2192_1, .int .i64 x2193_1, .int .i64 x2194_1] 32 (0, 0))) ∧ Aside0 (wc.heap[gb250]? = some (.cells #[.int .i64 t249, .int .i64 0, .int .i64 0, .int .i64 0, .int .i64 0] 32 (0, 0))) ∧ Aside0 (Below w.heap.size w wc))
                case first =>
                 have H := HC50.out
                 clear HC50
                 by_cases c51 : t249 = 6
                 ·rw [if_pos c51] at H
                  have c51b0 : (t249 == 6) = true := beq_iff_eq.mpr c51
                  have c51b1 : (t249 != 6) = false := bne_eq_false_iff_eq.mpr c51
                  clear c51
                  (first | rw [c51b0] | (simp only [i64_w, i32_w]; rw [c51b0]) | skip)
                  have H' := aM_ H
                  clear H
                  go_wp2
                  repeat (go_quiet (fail); try go_wp2)
                  go_meet
                  case rel => exact ⟨_, ((t249 == 6)), (by first | rfl | (simp; done) | (simp [*]; done)), H', ⟨by have := HK1.out; have := HJ40.out; first | omega | exact Nat.le_refl _⟩, ⟨by (with_reducible repeat (first | refine bN_ ?_ _ | refine bD_ ?_ | refine bA_ ?_ _)); exact BK218.out⟩, ⟨by (with_reducible repeat (first | refine bN_ ?_ _ | refine bD_ ?_ | refine bA_ ?_ _)); exact BK250.out⟩, ⟨by repeat (first | (with_reducible first | exact HB.out | apply hA_ | apply hN_ | apply hD_ | refine below_set ?_ GE218.out | refine below_set ?_ GE250.out) | exact HB.out)⟩⟩
                 ·rw [if_neg c51] at H
                  have c51b0 : (t249 == 6) = false := beq_eq_false_iff_ne.mpr c51
                  have c51b1 : (t249 != 6) = true := bne_iff_ne.mpr c51
                  (first | rw [c51b0] | (simp only [i64_w, i32_w]; rw [c51b0]) | skip)
                  have H' := aM_ H
                  clear H
                  go_wp2
                  repeat (go_quiet (fail); try go_wp2)
                  go_meet
                  case rel => exact ⟨_, ((t249 == 8)), (by first | rfl | (simp; done) | (simp [*]; done)), H', ⟨by have := HK1.out; have := HJ40.out; first | omega | exact Nat.le_refl _⟩, ⟨by (with_reducible repeat (first | refine bN_ ?_ _ | refine bD_ ?_ | refine bA_ ?_ _)); exact BK218.out⟩, ⟨by (with_reducible repeat (first | refine bN_ ?_ _ | refine bD_ ?_ | refine bA_ ?_ _)); exact BK250.out⟩, ⟨by repeat (first | (with_reducible first | exact HB.out | apply hA_ | apply hN_ | apply hD_ | refine below_set ?_ GE218.out | refine below_set ?_ GE250.out) | exact HB.out)⟩⟩
                case rest =>
                 clear HC50
                 try clear c1
                 try clear c2
                 try clear p2
                 try clear q2
                 try clear hx2
                 try clear qi2
                 try clear c3
                 try clear c3b0
                 try clear c3b1
                 try clear c4
                 try clear c5
                 try clear p6
                 try clear c8
                 try clear q8
                 try clear c10
                 try clear c10b0
                 try clear c11
                 try clear c11b0
                 try clear c12
                 try clear c12b0
                 try clear c14
                 try clear c20
                 try clear c21
                 try clear c21b0
                 try clear c21b1
                 try clear c22
                 try clear c22b0
                 try clear c22b1
                 try clear p22
                 try clear q22
                 try clear hx22
                 try clear c23
                 try clear c23b0
                 try clear c23b1
                 try clear q23
                 try clear c24
                 try clear c24b0
                 try clear c24b1
                 try clear p24
                 try clear q24
                 try clear hx24
                 try clear qi24
                 try clear c36
                 try clear c38
                 try clear c38b0
                 try clear c38b1
                 try clear c39
                 try clear c42
                 try clear c42b0
                 try clear c42b1
                 try clear c43
                 try clear c43b0
                 try clear c43b1
                 try clear c44
                 try clear c45
                 try clear c47
                 try clear c47b0
                 try clear c47b1
                 try clear c48
                 try clear c50
                 try clear c51
                 try clear c51b0
                 try clear c51b1
                 try clear hcz18_0
                 try clear hcz18_1
                 try clear hcz18_2
                 try clear hcz18_3
                 try clear hcz18_4
                 try clear hcz37_0
                 try clear hcz37_1
                 try clear hcz37_2
                 try clear hcz37_3
                 try clear hcz37_4
                 try clear hcz40_0
                 try clear hcz40_1
                 try clear hcz40_2
                 try clear hcz40_3
                 try clear hcz40_4
                 try clear hcz46_0
                 try clear hcz46_1
                 try clear hcz46_2
                 try clear hcz46_3
                 try clear hcz46_4
                 try clear hcz49_0
                 try clear hcz49_1
                 try clear hcz49_2
                 try clear hcz49_3
                 try clear hcz49_4
                 try clear hfz18_0
                 try clear hfz18_1
                 try clear hfz18_2
                 try clear hfz18_3
                 try clear hfz18_4
                 try clear hfz37_0
                 try clear hfz37_1
                 try clear hfz37_2
                 try clear hfz37_3
                 try clear hfz37_4
                 try clear hfz40_0
                 try clear hfz40_1
                 try clear hfz40_2
                 try clear hfz40_3
                 try clear hfz40_4
                 try clear hfz46_0
                 try clear hfz46_1
                 try clear hfz46_2
                 try clear hfz46_3
                 try clear hfz46_4
                 try clear hfz49_0
                 try clear hfz49_1
                 try clear hfz49_2
                 try clear hfz49_3
                 try clear hfz49_4
                 try clear hx229_0
                 try clear hx245_0
                 try clear hx246_0
                 try clear hx247_0
                 try clear hx248_0
                 try clear p2
                 try clear p22
                 try clear p229
                 try clear p24
                 try clear p245
                 try clear p246
                 try clear p247
                 try clear p248
                 try clear p6
                 try clear q2
                 try clear q22
                 try clear q229
                 try clear q23
                 try clear q232
                 try clear q24
                 try clear q245
                 try clear q246
                 try clear q247
                 try clear q248
                 try clear q8
                 obtain ⟨kq, x81_49, rfl, HA, HJ49, BK218, BK250, HB⟩ := hcut
                 cases kq with
                 | zero => exact absurd HA.out (by simp [impl_InsRead.j2])
                 | succ kj49 =>
                  have H := HA.out
                  clear HA
                  simp only [impl_InsRead.j2] at H
                  by_cases c52 : x81_49 = true
                  ·subst c52
                   have H1 : (impl_InsRead.j4 kj49 a0 t249 (rd y242 0) 0 (rd y242 1) (rd y242 2)) = some (r1, r2, r3, r4, r5, r6) := by rw [if_pos rfl] at H; exact H
                   clear H
                   have H := H1
                   clear H1
                   have H' := aM_ H
                   clear H
                   have hnb53 := NB250_218.out
                   have hnc53 := NB218_250.out
                   have hcz54_0 : wc.cell? ⟨gb250, 0, none⟩ = some (.int .i64 t249) := (blk_cell BK250.out 0).trans rfl
                   have hcz54_1 : wc.cell? ⟨gb250, 1, none⟩ = some (.int .i64 0) := (blk_cell BK250.out 1).trans rfl
                   have hcz54_2 : wc.cell? ⟨gb250, 2, none⟩ = some (.int .i64 0) := (blk_cell BK250.out 2).trans rfl
                   have hcz54_3 : wc.cell? ⟨gb250, 3, none⟩ = some (.int .i64 0) := (blk_cell BK250.out 3).trans rfl
                   have hcz54_4 : wc.cell? ⟨gb250, 4, none⟩ = some (.int .i64 0) := (blk_cell BK250.out 4).trans rfl
                   have hfz54_0 := blk_frozen BK250.out 0
                   have hfz54_1 := blk_frozen BK250.out 1
                   have hfz54_2 := blk_frozen BK250.out 2
                   have hfz54_3 := blk_frozen BK250.out 3
                   have hfz54_4 := blk_frozen BK250.out 4
                   go_wp2
                   repeat (go_quiet (fail); try go_wp2)
                   go_meet
                   case rel => exact ⟨_, ((rd y242 0)), (0), ((rd y242 1)), ((rd y242 2)), H', ⟨by have := HK1.out; have := HJ40.out; have := HJ49.out; first | omega | exact Nat.le_refl _⟩, ⟨by (with_reducible repeat (first | refine bN_ ?_ _ | refine bD_ ?_ | refine bA_ ?_ _)); refine blk_far ?_ NB218_250.out _; (with_reducible repeat (first | refine bN_ ?_ _ | refine bD_ ?_ | refine bA_ ?_ _)); refine blk_far ?_ NB218_250.out _; (with_reducible repeat (first | refine bN_ ?_ _ | refine bD_ ?_ | refine bA_ ?_ _)); refine blk_far ?_ NB218_250.out _; (with_reducible repeat (first | refine bN_ ?_ _ | refine bD_ ?_ | refine bA_ ?_ _)); exact BK218.out⟩, ⟨by (with_reducible repeat (first | refine bN_ ?_ _ | refine bD_ ?_ | refine bA_ ?_ _)); refine blk_put (cs := #[.int .i64 t249, .int .i64 (rd y242 0), .int .i64 0, .int .i64 (rd y242 1), .int .i64 0]) ?_ 4 _ rfl; (with_reducible repeat (first | refine bN_ ?_ _ | refine bD_ ?_ | refine bA_ ?_ _)); refine blk_put (cs := #[.int .i64 t249, .int .i64 (rd y242 0), .int .i64 0, .int .i64 0, .int .i64 0]) ?_ 3 _ rfl; (with_reducible repeat (first | refine bN_ ?_ _ | refine bD_ ?_ | refine bA_ ?_ _)); refine blk_put (cs := #[.int .i64 t249, .int .i64 0, .int .i64 0, .int .i64 0, .int .i64 0]) ?_ 1 _ rfl; (with_reducible repeat (first | refine bN_ ?_ _ | refine bD_ ?_ | refine bA_ ?_ _)); exact BK250.out⟩, ⟨by repeat (first | (with_reducible first | exact HB.out | apply hA_ | apply hN_ | apply hD_ | refine below_set ?_ GE218.out | refine below_set ?_ GE250.out) | exact HB.out)⟩⟩
                  ·replace c52 := Bool.eq_false_iff.mpr c52
                   subst c52
                   have H1 : (if t249 = 7 then (impl_InsRead.j4 kj49 a0 t249 (rd y242 0) (rd y242 2) 0 (rd y242 1)) else (if t249 = 9 then (impl_InsRead.j3 kj49 a0 (rd y242 0) (rd y242 1) t249 (t249 == 9) t249 0 0 0 0) else (impl_InsRead.j3 kj49 a0 (rd y242 0) (rd y242 1) t249 (t249 == 11) t249 0 0 0 0))) = some (r1, r2, r3, r4, r5, r6) := by rw [if_neg (show ¬ (false = true) by decide)] at H; exact H
                   clear H
                   have H := H1
                   clear H1
                   by_cases c55 : t249 = 7
                   ·rw [if_pos c55] at H
                    have c55b0 : (t249 == 7) = true := beq_iff_eq.mpr c55
                    have c55b1 : (t249 != 7) = false := bne_eq_false_iff_eq.mpr c55
                    clear c55
                    have H' := aM_ H
                    clear H
                    have hnb56 := NB250_218.out
                    have hnc56 := NB218_250.out
                    have hcz57_0 : wc.cell? ⟨gb250, 0, none⟩ = some (.int .i64 t249) := (blk_cell BK250.out 0).trans rfl
                    have hcz57_1 : wc.cell? ⟨gb250, 1, none⟩ = some (.int .i64 0) := (blk_cell BK250.out 1).trans rfl
                    have hcz57_2 : wc.cell? ⟨gb250, 2, none⟩ = some (.int .i64 0) := (blk_cell BK250.out 2).trans rfl
                    have hcz57_3 : wc.cell? ⟨gb250, 3, none⟩ = some (.int .i64 0) := (blk_cell BK250.out 3).trans rfl
                    have hcz57_4 : wc.cell? ⟨gb250, 4, none⟩ = some (.int .i64 0) := (blk_cell BK250.out 4).trans rfl
                    have hfz57_0 := blk_frozen BK250.out 0
                    have hfz57_1 := blk_frozen BK250.out 1
                    have hfz57_2 := blk_frozen BK250.out 2
                    have hfz57_3 := blk_frozen BK250.out 3
                    have hfz57_4 := blk_frozen BK250.out 4
                    go_wp2
                    repeat (go_quiet (fail); try go_wp2)
                    go_meet
                    case rel => exact ⟨_, ((rd y242 0)), ((rd y242 2)), (0), ((rd y242 1)), H', ⟨by have := HK1.out; have := HJ40.out; have := HJ49.out; first | omega | exact Nat.le_refl _⟩, ⟨by (with_reducible repeat (first | refine bN_ ?_ _ | refine bD_ ?_ | refine bA_ ?_ _)); refine blk_far ?_ NB218_250.out _; (with_reducible repeat (first | refine bN_ ?_ _ | refine bD_ ?_ | refine bA_ ?_ _)); refine blk_far ?_ NB218_250.out _; (with_reducible repeat (first | refine bN_ ?_ _ | refine bD_ ?_ | refine bA_ ?_ _)); refine blk_far ?_ NB218_250.out _; (with_reducible repeat (first | refine bN_ ?_ _ | refine bD_ ?_ | refine bA_ ?_ _)); exact BK218.out⟩, ⟨by (with_reducible repeat (first | refine bN_ ?_ _ | refine bD_ ?_ | refine bA_ ?_ _)); refine blk_put (cs := #[.int .i64 t249, .int .i64 (rd y242 0), .int .i64 0, .int .i64 0, .int .i64 (rd y242 1)]) ?_ 2 _ rfl; (with_reducible repeat (first | refine bN_ ?_ _ | refine bD_ ?_ | refine bA_ ?_ _)); refine blk_put (cs := #[.int .i64 t249, .int .i64 (rd y242 0), .int .i64 0, .int .i64 0, .int .i64 0]) ?_ 4 _ rfl; (with_reducible repeat (first | refine bN_ ?_ _ | refine bD_ ?_ | refine bA_ ?_ _)); refine blk_put (cs := #[.int .i64 t249, .int .i64 0, .int .i64 0, .int .i64 0, .int .i64 0]) ?_ 1 _ rfl; (with_reducible repeat (first | refine bN_ ?_ _ | refine bD_ ?_ | refine bA_ ?_ _)); exact BK250.out⟩, ⟨by repeat (first | (with_reducible first | exact HB.out | apply hA_ | apply hN_ | apply hD_ | refine below_set ?_ GE218.out | refine below_set ?_ GE250.out) | exact HB.out)⟩⟩
                   ·rw [if_neg c55] at H
                    have c55b0 : (t249 == 7) = false := beq_eq_false_iff_ne.mpr c55
                    have c55b1 : (t249 != 7) = true := bne_iff_ne.mpr c55
                    have HC58 := aM_ H
                    clear H
                    go_upto_if 98 with (fail)
                    repeat (go_quiet (fail); go_upto_if 98 with (fail))
                    go_cut [98] (fun v98 wc => ∃ (kq : Nat) (x98_57 : Bool), v98 = .bool x98_57 ∧ Aside0 (impl_InsRead.j3 kq a0 (rd y242 0) (rd y242 1) t249 x98_57 t249 0 0 0 0 = some (r1, r2, r3, r4, r5, r6)) ∧ Aside0 (kq ≤ kj49) ∧ Aside0 (wc.heap[gb218]? = some (.cells #[.int .i64 x2190_1, .int .i64 x2191_1, .int .i64 x2192_1, .int .i64 x2193_1, .int .i64 x2194_1] 32 (0, 0))) ∧ Aside0 (wc.heap[gb250]? = some (.cells #[.int .i64 t249, .int .i64 0, .int .i64 0, .int .i64 0, .int .i64 0] 32 (0, 0))) ∧ Aside0 (Below w.heap.size w wc))
                    case first =>
                     have H := HC58.out
                     clear HC58
                     by_cases c59 : t249 = 9
                     ·rw [if_pos c59] at H
                      have c59b0 : (t249 == 9) = true := beq_iff_eq.mpr c59
                      have c59b1 : (t249 != 9) = false := bne_eq_false_iff_eq.mpr c59
                      clear c59
                      (first | rw [c59b0] | (simp only [i64_w, i32_w]; rw [c59b0]) | skip)
                      have H' := aM_ H
                      clear H
                      go_wp2
                      repeat (go_quiet (fail); try go_wp2)
                      go_meet
                      case rel => exact ⟨_, ((t249 == 9)), (by first | rfl | (simp; done) | (simp [*]; done)), H', ⟨by have := HK1.out; have := HJ40.out; have := HJ49.out; first | omega | exact Nat.le_refl _⟩, ⟨by (with_reducible repeat (first | refine bN_ ?_ _ | refine bD_ ?_ | refine bA_ ?_ _)); exact BK218.out⟩, ⟨by (with_reducible repeat (first | refine bN_ ?_ _ | refine bD_ ?_ | refine bA_ ?_ _)); exact BK250.out⟩, ⟨by repeat (first | (with_reducible first | exact HB.out | apply hA_ | apply hN_ | apply hD_ | refine below_set ?_ GE218.out | refine below_set ?_ GE250.out) | exact HB.out)⟩⟩
                     ·rw [if_neg c59] at H
                      have c59b0 : (t249 == 9) = false := beq_eq_false_iff_ne.mpr c59
                      have c59b1 : (t249 != 9) = true := bne_iff_ne.mpr c59
                      (first | rw [c59b0] | (simp only [i64_w, i32_w]; rw [c59b0]) | skip)
                      have H' := aM_ H
                      clear H
                      go_wp2
                      repeat (go_quiet (fail); try go_wp2)
                      go_meet
                      case rel => exact ⟨_, ((t249 == 11)), (by first | rfl | (simp; done) | (simp [*]; done)), H', ⟨by have := HK1.out; have := HJ40.out; have := HJ49.out; first | omega | exact Nat.le_refl _⟩, ⟨by (with_reducible repeat (first | refine bN_ ?_ _ | refine bD_ ?_ | refine bA_ ?_ _)); exact BK218.out⟩, ⟨by (with_reducible repeat (first | refine bN_ ?_ _ | refine bD_ ?_ | refine bA_ ?_ _)); exact BK250.out⟩, ⟨by repeat (first | (with_reducible first | exact HB.out | apply hA_ | apply hN_ | apply hD_ | refine below_set ?_ GE218.out | refine below_set ?_ GE250.out) | exact HB.out)⟩⟩
                    case rest =>
                     clear HC58
                     try clear c1
                     try clear c2
                     try clear p2
                     try clear q2
                     try clear hx2
                     try clear qi2
                     try clear c3
                     try clear c3b0
                     try clear c3b1
                     try clear c4
                     try clear c5
                     try clear p6
                     try clear c8
                     try clear q8
                     try clear c10
                     try clear c10b0
                     try clear c11
                     try clear c11b0
                     try clear c12
                     try clear c12b0
                     try clear c14
                     try clear c20
                     try clear c21
                     try clear c21b0
                     try clear c21b1
                     try clear c22
                     try clear c22b0
                     try clear c22b1
                     try clear p22
                     try clear q22
                     try clear hx22
                     try clear c23
                     try clear c23b0
                     try clear c23b1
                     try clear q23
                     try clear c24
                     try clear c24b0
                     try clear c24b1
                     try clear p24
                     try clear q24
                     try clear hx24
                     try clear qi24
                     try clear c36
                     try clear c38
                     try clear c38b0
                     try clear c38b1
                     try clear c39
                     try clear c42
                     try clear c42b0
                     try clear c42b1
                     try clear c43
                     try clear c43b0
                     try clear c43b1
                     try clear c44
                     try clear c45
                     try clear c47
                     try clear c47b0
                     try clear c47b1
                     try clear c48
                     try clear c50
                     try clear c51
                     try clear c51b0
                     try clear c51b1
                     try clear c52
                     try clear c53
                     try clear c55
                     try clear c55b0
                     try clear c55b1
                     try clear c56
                     try clear c59
                     try clear c59b0
                     try clear c59b1
                     try clear hcz18_0
                     try clear hcz18_1
                     try clear hcz18_2
                     try clear hcz18_3
                     try clear hcz18_4
                     try clear hcz37_0
                     try clear hcz37_1
                     try clear hcz37_2
                     try clear hcz37_3
                     try clear hcz37_4
                     try clear hcz40_0
                     try clear hcz40_1
                     try clear hcz40_2
                     try clear hcz40_3
                     try clear hcz40_4
                     try clear hcz46_0
                     try clear hcz46_1
                     try clear hcz46_2
                     try clear hcz46_3
                     try clear hcz46_4
                     try clear hcz49_0
                     try clear hcz49_1
                     try clear hcz49_2
                     try clear hcz49_3
                     try clear hcz49_4
                     try clear hcz54_0
                     try clear hcz54_1
                     try clear hcz54_2
                     try clear hcz54_3
                     try clear hcz54_4
                     try clear hcz57_0
                     try clear hcz57_1
                     try clear hcz57_2
                     try clear hcz57_3
                     try clear hcz57_4
                     try clear hfz18_0
                     try clear hfz18_1
                     try clear hfz18_2
                     try clear hfz18_3
                     try clear hfz18_4
                     try clear hfz37_0
                     try clear hfz37_1
                     try clear hfz37_2
                     try clear hfz37_3
                     try clear hfz37_4
                     try clear hfz40_0
                     try clear hfz40_1
                     try clear hfz40_2
                     try clear hfz40_3
                     try clear hfz40_4
                     try clear hfz46_0
                     try clear hfz46_1
                     try clear hfz46_2
                     try clear hfz46_3
                     try clear hfz46_4
                     try clear hfz49_0
                     try clear hfz49_1
                     try clear hfz49_2
                     try clear hfz49_3
                     try clear hfz49_4
                     try clear hfz54_0
                     try clear hfz54_1
                     try clear hfz54_2
                     try clear hfz54_3
                     try clear hfz54_4
                     try clear hfz57_0
                     try clear hfz57_1
                     try clear hfz57_2
                     try clear hfz57_3
                     try clear hfz57_4
                     try clear hx229_0
                     try clear hx245_0
                     try clear hx246_0
                     try clear hx247_0
                     try clear hx248_0
                     try clear p2
                     try clear p22
                     try clear p229
                     try clear p24
                     try clear p245
                     try clear p246
                     try clear p247
                     try clear p248
                     try clear p6
                     try clear q2
                     try clear q22
                     try clear q229
                     try clear q23
                     try clear q232
                     try clear q24
                     try clear q245
                     try clear q246
                     try clear q247
                     try clear q248
                     try clear q8
                     obtain ⟨kq, x98_57, rfl, HA, HJ57, BK218, BK250, HB⟩ := hcut
                     cases kq with
                     | zero => exact absurd HA.out (by simp [impl_InsRead.j3])
                     | succ kj57 =>
                      have H := HA.out
                      clear HA
                      simp only [impl_InsRead.j3] at H
                      by_cases c60 : x98_57 = true
                      ·subst c60
                       have H1 : (impl_InsRead.j4 kj57 a0 t249 0 0 0 (rd y242 0)) = some (r1, r2, r3, r4, r5, r6) := by rw [if_pos rfl] at H; exact H
                       clear H
                       have H := H1
                       clear H1
                       have H' := aM_ H
                       clear H
                       have hnb61 := NB250_218.out
                       have hnc61 := NB218_250.out
                       have hcz62_0 : wc.cell? ⟨gb250, 0, none⟩ = some (.int .i64 t249) := (blk_cell BK250.out 0).trans rfl
                       have hcz62_1 : wc.cell? ⟨gb250, 1, none⟩ = some (.int .i64 0) := (blk_cell BK250.out 1).trans rfl
                       have hcz62_2 : wc.cell? ⟨gb250, 2, none⟩ = some (.int .i64 0) := (blk_cell BK250.out 2).trans rfl
                       have hcz62_3 : wc.cell? ⟨gb250, 3, none⟩ = some (.int .i64 0) := (blk_cell BK250.out 3).trans rfl
                       have hcz62_4 : wc.cell? ⟨gb250, 4, none⟩ = some (.int .i64 0) := (blk_cell BK250.out 4).trans rfl
                       have hfz62_0 := blk_frozen BK250.out 0
                       have hfz62_1 := blk_frozen BK250.out 1
                       have hfz62_2 := blk_frozen BK250.out 2
                       have hfz62_3 := blk_frozen BK250.out 3
                       have hfz62_4 := blk_frozen BK250.out 4
                       go_wp2
                       repeat (go_quiet (fail); try go_wp2)
                       go_meet
                       case rel => exact ⟨_, (0), (0), (0), ((rd y242 0)), H', ⟨by have := HK1.out; have := HJ40.out; have := HJ49.out; have := HJ57.out; first | omega | exact Nat.le_refl _⟩, ⟨by (with_reducible repeat (first | refine bN_ ?_ _ | refine bD_ ?_ | refine bA_ ?_ _)); refine blk_far ?_ NB218_250.out _; (with_reducible repeat (first | refine bN_ ?_ _ | refine bD_ ?_ | refine bA_ ?_ _)); exact BK218.out⟩, ⟨by (with_reducible repeat (first | refine bN_ ?_ _ | refine bD_ ?_ | refine bA_ ?_ _)); refine blk_put (cs := #[.int .i64 t249, .int .i64 0, .int .i64 0, .int .i64 0, .int .i64 0]) ?_ 4 _ rfl; (with_reducible repeat (first | refine bN_ ?_ _ | refine bD_ ?_ | refine bA_ ?_ _)); exact BK250.out⟩, ⟨by repeat (first | (with_reducible first | exact HB.out | apply hA_ | apply hN_ | apply hD_ | refine below_set ?_ GE218.out | refine below_set ?_ GE250.out) | exact HB.out)⟩⟩
                      ·replace c60 := Bool.eq_false_iff.mpr c60
                       subst c60
                       have H1 : (if t249 = 10 then (impl_InsRead.j4 kj57 a0 t249 0 (rd y242 0) 0 0) else (if t249 = 12 then (impl_InsRead.j4 kj57 a0 t249 0 (rd y242 0) 0 (rd y242 1)) else (impl_InsRead.j4 kj57 a0 t249 0 0 0 0))) = some (r1, r2, r3, r4, r5, r6) := by rw [if_neg (show ¬ (false = true) by decide)] at H; exact H
                       clear H
                       have H := H1
                       clear H1
                       by_cases c63 : t249 = 10
                       ·rw [if_pos c63] at H
                        have c63b0 : (t249 == 10) = true := beq_iff_eq.mpr c63
                        have c63b1 : (t249 != 10) = false := bne_eq_false_iff_eq.mpr c63
                        clear c63
                        have H' := aM_ H
                        clear H
                        have hnb64 := NB250_218.out
                        have hnc64 := NB218_250.out
                        have hcz65_0 : wc.cell? ⟨gb250, 0, none⟩ = some (.int .i64 t249) := (blk_cell BK250.out 0).trans rfl
                        have hcz65_1 : wc.cell? ⟨gb250, 1, none⟩ = some (.int .i64 0) := (blk_cell BK250.out 1).trans rfl
                        have hcz65_2 : wc.cell? ⟨gb250, 2, none⟩ = some (.int .i64 0) := (blk_cell BK250.out 2).trans rfl
                        have hcz65_3 : wc.cell? ⟨gb250, 3, none⟩ = some (.int .i64 0) := (blk_cell BK250.out 3).trans rfl
                        have hcz65_4 : wc.cell? ⟨gb250, 4, none⟩ = some (.int .i64 0) := (blk_cell BK250.out 4).trans rfl
                        have hfz65_0 := blk_frozen BK250.out 0
                        have hfz65_1 := blk_frozen BK250.out 1
                        have hfz65_2 := blk_frozen BK250.out 2
                        have hfz65_3 := blk_frozen BK250.out 3
                        have hfz65_4 := blk_frozen BK250.out 4
                        go_wp2
                        repeat (go_quiet (fail); try go_wp2)
                        go_meet
                        case rel => exact ⟨_, (0), ((rd y242 0)), (0), (0), H', ⟨by have := HK1.out; have := HJ40.out; have := HJ49.out; have := HJ57.out; first | omega | exact Nat.le_refl _⟩, ⟨by (with_reducible repeat (first | refine bN_ ?_ _ | refine bD_ ?_ | refine bA_ ?_ _)); refine blk_far ?_ NB218_250.out _; (with_reducible repeat (first | refine bN_ ?_ _ | refine bD_ ?_ | refine bA_ ?_ _)); exact BK218.out⟩, ⟨by (with_reducible repeat (first | refine bN_ ?_ _ | refine bD_ ?_ | refine bA_ ?_ _)); refine blk_put (cs := #[.int .i64 t249, .int .i64 0, .int .i64 0, .int .i64 0, .int .i64 0]) ?_ 2 _ rfl; (with_reducible repeat (first | refine bN_ ?_ _ | refine bD_ ?_ | refine bA_ ?_ _)); exact BK250.out⟩, ⟨by repeat (first | (with_reducible first | exact HB.out | apply hA_ | apply hN_ | apply hD_ | refine below_set ?_ GE218.out | refine below_set ?_ GE250.out) | exact HB.out)⟩⟩
                       ·rw [if_neg c63] at H
                        have c63b0 : (t249 == 10) = false := beq_eq_false_iff_ne.mpr c63
                        have c63b1 : (t249 != 10) = true := bne_iff_ne.mpr c63
                        by_cases c66 : t249 = 12
                        ·rw [if_pos c66] at H
                         have c66b0 : (t249 == 12) = true := beq_iff_eq.mpr c66
                         have c66b1 : (t249 != 12) = false := bne_eq_false_iff_eq.mpr c66
                         clear c66
                         have H' := aM_ H
                         clear H
                         have hnb67 := NB250_218.out
                         have hnc67 := NB218_250.out
                         have hcz68_0 : wc.cell? ⟨gb250, 0, none⟩ = some (.int .i64 t249) := (blk_cell BK250.out 0).trans rfl
                         have hcz68_1 : wc.cell? ⟨gb250, 1, none⟩ = some (.int .i64 0) := (blk_cell BK250.out 1).trans rfl
                         have hcz68_2 : wc.cell? ⟨gb250, 2, none⟩ = some (.int .i64 0) := (blk_cell BK250.out 2).trans rfl
                         have hcz68_3 : wc.cell? ⟨gb250, 3, none⟩ = some (.int .i64 0) := (blk_cell BK250.out 3).trans rfl
                         have hcz68_4 : wc.cell? ⟨gb250, 4, none⟩ = some (.int .i64 0) := (blk_cell BK250.out 4).trans rfl
                         have hfz68_0 := blk_frozen BK250.out 0
                         have hfz68_1 := blk_frozen BK250.out 1
                         have hfz68_2 := blk_frozen BK250.out 2
                         have hfz68_3 := blk_frozen BK250.out 3
                         have hfz68_4 := blk_frozen BK250.out 4
                         go_wp2
                         repeat (go_quiet (fail); try go_wp2)
                         go_meet
                         case rel => exact ⟨_, (0), ((rd y242 0)), (0), ((rd y242 1)), H', ⟨by have := HK1.out; have := HJ40.out; have := HJ49.out; have := HJ57.out; first | omega | exact Nat.le_refl _⟩, ⟨by (with_reducible repeat (first | refine bN_ ?_ _ | refine bD_ ?_ | refine bA_ ?_ _)); refine blk_far ?_ NB218_250.out _; (with_reducible repeat (first | refine bN_ ?_ _ | refine bD_ ?_ | refine bA_ ?_ _)); refine blk_far ?_ NB218_250.out _; (with_reducible repeat (first | refine bN_ ?_ _ | refine bD_ ?_ | refine bA_ ?_ _)); exact BK218.out⟩, ⟨by (with_reducible repeat (first | refine bN_ ?_ _ | refine bD_ ?_ | refine bA_ ?_ _)); refine blk_put (cs := #[.int .i64 t249, .int .i64 0, .int .i64 (rd y242 0), .int .i64 0, .int .i64 0]) ?_ 4 _ rfl; (with_reducible repeat (first | refine bN_ ?_ _ | refine bD_ ?_ | refine bA_ ?_ _)); refine blk_put (cs := #[.int .i64 t249, .int .i64 0, .int .i64 0, .int .i64 0, .int .i64 0]) ?_ 2 _ rfl; (with_reducible repeat (first | refine bN_ ?_ _ | refine bD_ ?_ | refine bA_ ?_ _)); exact BK250.out⟩, ⟨by repeat (first | (with_reducible first | exact HB.out | apply hA_ | apply hN_ | apply hD_ | refine below_set ?_ GE218.out | refine below_set ?_ GE250.out) | exact HB.out)⟩⟩
                        ·rw [if_neg c66] at H
                         have c66b0 : (t249 == 12) = false := beq_eq_false_iff_ne.mpr c66
                         have c66b1 : (t249 != 12) = true := bne_iff_ne.mpr c66
                         have H' := aM_ H
                         clear H
                         go_wp2
                         repeat (go_quiet (fail); try go_wp2)
                         go_meet
                         case rel => exact ⟨_, (0), (0), (0), (0), H', ⟨by have := HK1.out; have := HJ40.out; have := HJ49.out; have := HJ57.out; first | omega | exact Nat.le_refl _⟩, ⟨by (with_reducible repeat (first | refine bN_ ?_ _ | refine bD_ ?_ | refine bA_ ?_ _)); exact BK218.out⟩, ⟨by (with_reducible repeat (first | refine bN_ ?_ _ | refine bD_ ?_ | refine bA_ ?_ _)); exact BK250.out⟩, ⟨by repeat (first | (with_reducible first | exact HB.out | apply hA_ | apply hN_ | apply hD_ | refine below_set ?_ GE218.out | refine below_set ?_ GE250.out) | exact HB.out)⟩⟩
          case rest =>
           clear HC26
           try clear c1
           try clear c2
           try clear p2
           try clear q2
           try clear hx2
           try clear qi2
           try clear c3
           try clear c3b0
           try clear c3b1
           try clear c4
           try clear c5
           try clear c6
           try clear p6
           try clear c8
           try clear q8
           try clear c10
           try clear c10b0
           try clear c11
           try clear c11b0
           try clear c12
           try clear c12b0
           try clear c14
           try clear c20
           try clear c21
           try clear c21b0
           try clear c21b1
           try clear c22
           try clear c22b0
           try clear c22b1
           try clear p22
           try clear q22
           try clear hx22
           try clear c23
           try clear c23b0
           try clear c23b1
           try clear q23
           try clear c24
           try clear c24b0
           try clear c24b1
           try clear p24
           try clear q24
           try clear hx24
           try clear qi24
           try clear c36
           try clear c38
           try clear c38b0
           try clear c38b1
           try clear c39
           try clear c42
           try clear c42b0
           try clear c42b1
           try clear c43
           try clear c43b0
           try clear c43b1
           try clear c44
           try clear c45
           try clear c47
           try clear c47b0
           try clear c47b1
           try clear c48
           try clear c50
           try clear c51
           try clear c51b0
           try clear c51b1
           try clear c52
           try clear c53
           try clear c55
           try clear c55b0
           try clear c55b1
           try clear c56
           try clear c59
           try clear c59b0
           try clear c59b1
           try clear c60
           try clear c61
           try clear c63
           try clear c63b0
           try clear c63b1
           try clear c64
           try clear c66
           try clear c66b0
           try clear c66b1
           try clear c67
           try clear hcz18_0
           try clear hcz18_1
           try clear hcz18_2
           try clear hcz18_3
           try clear hcz18_4
           try clear hcz37_0
           try clear hcz37_1
           try clear hcz37_2
           try clear hcz37_3
           try clear hcz37_4
           try clear hcz40_0
           try clear hcz40_1
           try clear hcz40_2
           try clear hcz40_3
           try clear hcz40_4
           try clear hcz46_0
           try clear hcz46_1
           try clear hcz46_2
           try clear hcz46_3
           try clear hcz46_4
           try clear hcz49_0
           try clear hcz49_1
           try clear hcz49_2
           try clear hcz49_3
           try clear hcz49_4
           try clear hcz54_0
           try clear hcz54_1
           try clear hcz54_2
           try clear hcz54_3
           try clear hcz54_4
           try clear hcz57_0
           try clear hcz57_1
           try clear hcz57_2
           try clear hcz57_3
           try clear hcz57_4
           try clear hcz62_0
           try clear hcz62_1
           try clear hcz62_2
           try clear hcz62_3
           try clear hcz62_4
           try clear hcz65_0
           try clear hcz65_1
           try clear hcz65_2
           try clear hcz65_3
           try clear hcz65_4
           try clear hcz68_0
           try clear hcz68_1
           try clear hcz68_2
           try clear hcz68_3
           try clear hcz68_4
           try clear hfz18_0
           try clear hfz18_1
           try clear hfz18_2
           try clear hfz18_3
           try clear hfz18_4
           try clear hfz37_0
           try clear hfz37_1
           try clear hfz37_2
           try clear hfz37_3
           try clear hfz37_4
           try clear hfz40_0
           try clear hfz40_1
           try clear hfz40_2
           try clear hfz40_3
           try clear hfz40_4
           try clear hfz46_0
           try clear hfz46_1
           try clear hfz46_2
           try clear hfz46_3
           try clear hfz46_4
           try clear hfz49_0
           try clear hfz49_1
           try clear hfz49_2
           try clear hfz49_3
           try clear hfz49_4
           try clear hfz54_0
           try clear hfz54_1
           try clear hfz54_2
           try clear hfz54_3
           try clear hfz54_4
           try clear hfz57_0
           try clear hfz57_1
           try clear hfz57_2
           try clear hfz57_3
           try clear hfz57_4
           try clear hfz62_0
           try clear hfz62_1
           try clear hfz62_2
           try clear hfz62_3
           try clear hfz62_4
           try clear hfz65_0
           try clear hfz65_1
           try clear hfz65_2
           try clear hfz65_3
           try clear hfz65_4
           try clear hfz68_0
           try clear hfz68_1
           try clear hfz68_2
           try clear hfz68_3
           try clear hfz68_4
           try clear hx229_0
           try clear hx245_0
           try clear hx246_0
           try clear hx247_0
           try clear hx248_0
           try clear p2
           try clear p22
           try clear p229
           try clear p24
           try clear p245
           try clear p246
           try clear p247
           try clear p248
           try clear p6
           try clear q2
           try clear q22
           try clear q229
           try clear q23
           try clear q232
           try clear q24
           try clear q245
           try clear q246
           try clear q247
           try clear q248
           try clear q8
           obtain ⟨kq, x2511_25, x2512_25, x2513_25, x2514_25, HA, HJ25, BK218, BK250, HB⟩ := hcut
           cases kq with
           | zero => exact absurd HA.out (by simp [impl_InsRead.j4])
           | succ kj25 =>
            have H := HA.out
            clear HA
            simp only [impl_InsRead.j4] at H
            replace H := Option.bind_eq_some_iff.mp H
            obtain ⟨t251, A690, H⟩ := H
            replace H : (if t251.toList = ([] : List UInt8) then (some (0, 0, 0, 0, 0, false)) else (if t251.toList = a0.toList then (some (t249, x2511_25, x2512_25, x2513_25, x2514_25, true)) else (some (0, 0, 0, 0, 0, false)))) = some (r1, r2, r3, r4, r5, r6) := H
            have A69 := aM_ A690
            clear A690
            by_cases c70 : t251.toList = ([] : List UInt8)
            ·rw [if_pos c70] at H
             have c70b0 : (t251.toList == ([] : List UInt8)) = true := beq_iff_eq.mpr c70
             have c70b1 : (t251.toList != ([] : List UInt8)) = false := bne_eq_false_iff_eq.mpr c70
             clear c70
             simp only [Option.some.injEq, Prod.mk.injEq] at H
             obtain ⟨rfl, rfl, rfl, rfl, rfl, rfl⟩ := H
             have hnb71 := NB250_218.out
             have hnc71 := NB218_250.out
             have hcz72_0 : wc.cell? ⟨gb250, 0, none⟩ = some (.int .i64 t249) := (blk_cell BK250.out 0).trans rfl
             have hcz72_1 : wc.cell? ⟨gb250, 1, none⟩ = some (.int .i64 x2511_25) := (blk_cell BK250.out 1).trans rfl
             have hcz72_2 : wc.cell? ⟨gb250, 2, none⟩ = some (.int .i64 x2512_25) := (blk_cell BK250.out 2).trans rfl
             have hcz72_3 : wc.cell? ⟨gb250, 3, none⟩ = some (.int .i64 x2513_25) := (blk_cell BK250.out 3).trans rfl
             have hcz72_4 : wc.cell? ⟨gb250, 4, none⟩ = some (.int .i64 x2514_25) := (blk_cell BK250.out 4).trans rfl
             have hfz72_0 := blk_frozen BK250.out 0
             have hfz72_1 := blk_frozen BK250.out 1
             have hfz72_2 := blk_frozen BK250.out 2
             have hfz72_3 := blk_frozen BK250.out 3
             have hfz72_4 := blk_frozen BK250.out 4
             go_wp2_with (first | (go_at_call 21; (with_reducible refine (impl_InsText.calls kj25 t249 x2511_25 x2512_25 x2513_25 x2514_25 t251 _ A69.out ?sT).mono ?_); (case sT => first | with_reducible exact hT | exact TabT.Laid.below hT (by repeat (first | (with_reducible first | exact HB.out | apply hA_ | apply hN_ | apply hD_ | refine below_set ?_ GE218.out | refine below_set ?_ GE250.out) | exact HB.out))); rintro e w73 ⟨rfl, hb⟩; have n0 := aM_ (blk_below (g := gb218) (o := .cells #[.int .i64 x2190_1, .int .i64 x2191_1, .int .i64 x2192_1, .int .i64 x2193_1, .int .i64 x2194_1] 32 (0, 0)) (by (with_reducible repeat (first | refine bN_ ?_ _ | refine bD_ ?_ | refine bA_ ?_ _)); exact BK218.out) hb); have n1 := aM_ (blk_below (g := gb250) (o := .cells #[.int .i64 t249, .int .i64 x2511_25, .int .i64 x2512_25, .int .i64 x2513_25, .int .i64 x2514_25] 32 (0, 0)) (by (with_reducible repeat (first | refine bN_ ?_ _ | refine bD_ ?_ | refine bA_ ?_ _)); exact BK250.out) hb); have n2 := aM_ (below_step (by repeat (first | (with_reducible first | exact HB.out | apply hA_ | apply hN_ | apply hD_ | refine below_set ?_ GE218.out | refine below_set ?_ GE250.out) | exact HB.out)) hb); clear BK218; clear BK250; clear HB; have BK218 := n0; have BK250 := n1; have HB := n2; clear n0 n1 n2; have hcz74_0 : w73.cell? ⟨gb218, 0, none⟩ = some (.int .i64 x2190_1) := (blk_cell BK218.out 0).trans rfl; have hcz74_1 : w73.cell? ⟨gb218, 1, none⟩ = some (.int .i64 x2191_1) := (blk_cell BK218.out 1).trans rfl; have hcz74_2 : w73.cell? ⟨gb218, 2, none⟩ = some (.int .i64 x2192_1) := (blk_cell BK218.out 2).trans rfl; have hcz74_3 : w73.cell? ⟨gb218, 3, none⟩ = some (.int .i64 x2193_1) := (blk_cell BK218.out 3).trans rfl; have hcz74_4 : w73.cell? ⟨gb218, 4, none⟩ = some (.int .i64 x2194_1) := (blk_cell BK218.out 4).trans rfl; have hfz74_0 := blk_frozen BK218.out 0; have hfz74_1 := blk_frozen BK218.out 1; have hfz74_2 := blk_frozen BK218.out 2; have hfz74_3 := blk_frozen BK218.out 3; have hfz74_4 := blk_frozen BK218.out 4))
             repeat (go_quiet (first | (go_at_call 21; (with_reducible refine (impl_InsText.calls kj25 t249 x2511_25 x2512_25 x2513_25 x2514_25 t251 _ A69.out ?sT).mono ?_); (case sT => first | with_reducible exact hT | exact TabT.Laid.below hT (by repeat (first | (with_reducible first | exact HB.out | apply hA_ | apply hN_ | apply hD_ | refine below_set ?_ GE218.out | refine below_set ?_ GE250.out) | exact HB.out))); rintro e w73 ⟨rfl, hb⟩; have n0 := aM_ (blk_below (g := gb218) (o := .cells #[.int .i64 x2190_1, .int .i64 x2191_1, .int .i64 x2192_1, .int .i64 x2193_1, .int .i64 x2194_1] 32 (0, 0)) (by (with_reducible repeat (first | refine bN_ ?_ _ | refine bD_ ?_ | refine bA_ ?_ _)); exact BK218.out) hb); have n1 := aM_ (blk_below (g := gb250) (o := .cells #[.int .i64 t249, .int .i64 x2511_25, .int .i64 x2512_25, .int .i64 x2513_25, .int .i64 x2514_25] 32 (0, 0)) (by (with_reducible repeat (first | refine bN_ ?_ _ | refine bD_ ?_ | refine bA_ ?_ _)); exact BK250.out) hb); have n2 := aM_ (below_step (by repeat (first | (with_reducible first | exact HB.out | apply hA_ | apply hN_ | apply hD_ | refine below_set ?_ GE218.out | refine below_set ?_ GE250.out) | exact HB.out)) hb); clear BK218; clear BK250; clear HB; have BK218 := n0; have BK250 := n1; have HB := n2; clear n0 n1 n2; have hcz74_0 : w73.cell? ⟨gb218, 0, none⟩ = some (.int .i64 x2190_1) := (blk_cell BK218.out 0).trans rfl; have hcz74_1 : w73.cell? ⟨gb218, 1, none⟩ = some (.int .i64 x2191_1) := (blk_cell BK218.out 1).trans rfl; have hcz74_2 : w73.cell? ⟨gb218, 2, none⟩ = some (.int .i64 x2192_1) := (blk_cell BK218.out 2).trans rfl; have hcz74_3 : w73.cell? ⟨gb218, 3, none⟩ = some (.int .i64 x2193_1) := (blk_cell BK218.out 3).trans rfl; have hcz74_4 : w73.cell? ⟨gb218, 4, none⟩ = some (.int .i64 x2194_1) := (blk_cell BK218.out 4).trans rfl; have hfz74_0 := blk_frozen BK218.out 0; have hfz74_1 := blk_frozen BK218.out 1; have hfz74_2 := blk_frozen BK218.out 2; have hfz74_3 := blk_frozen BK218.out 3; have hfz74_4 := blk_frozen BK218.out 4)); try go_wp2_with (first | (go_at_call 21; (with_reducible refine (impl_InsText.calls kj25 t249 x2511_25 x2512_25 x2513_25 x2514_25 t251 _ A69.out ?sT).mono ?_); (case sT => first | with_reducible exact hT | exact TabT.Laid.below hT (by repeat (first | (with_reducible first | exact HB.out | apply hA_ | apply hN_ | apply hD_ | refine below_set ?_ GE218.out | refine below_set ?_ GE250.out) | exact HB.out))); rintro e w73 ⟨rfl, hb⟩; have n0 := aM_ (blk_below (g := gb218) (o := .cells #[.int .i64 x2190_1, .int .i64 x2191_1, .int .i64 x2192_1, .int .i64 x2193_1, .int .i64 x2194_1] 32 (0, 0)) (by (with_reducible repeat (first | refine bN_ ?_ _ | refine bD_ ?_ | refine bA_ ?_ _)); exact BK218.out) hb); have n1 := aM_ (blk_below (g := gb250) (o := .cells #[.int .i64 t249, .int .i64 x2511_25, .int .i64 x2512_25, .int .i64 x2513_25, .int .i64 x2514_25] 32 (0, 0)) (by (with_reducible repeat (first | refine bN_ ?_ _ | refine bD_ ?_ | refine bA_ ?_ _)); exact BK250.out) hb); have n2 := aM_ (below_step (by repeat (first | (with_reducible first | exact HB.out | apply hA_ | apply hN_ | apply hD_ | refine below_set ?_ GE218.out | refine below_set ?_ GE250.out) | exact HB.out)) hb); clear BK218; clear BK250; clear HB; have BK218 := n0; have BK250 := n1; have HB := n2; clear n0 n1 n2; have hcz74_0 : w73.cell? ⟨gb218, 0, none⟩ = some (.int .i64 x2190_1) := (blk_cell BK218.out 0).trans rfl; have hcz74_1 : w73.cell? ⟨gb218, 1, none⟩ = some (.int .i64 x2191_1) := (blk_cell BK218.out 1).trans rfl; have hcz74_2 : w73.cell? ⟨gb218, 2, none⟩ = some (.int .i64 x2192_1) := (blk_cell BK218.out 2).trans rfl; have hcz74_3 : w73.cell? ⟨gb218, 3, none⟩ = some (.int .i64 x2193_1) := (blk_cell BK218.out 3).trans rfl; have hcz74_4 : w73.cell? ⟨gb218, 4, none⟩ = some (.int .i64 x2194_1) := (blk_cell BK218.out 4).trans rfl; have hfz74_0 := blk_frozen BK218.out 0; have hfz74_1 := blk_frozen BK218.out 1; have hfz74_2 := blk_frozen BK218.out 2; have hfz74_3 := blk_frozen BK218.out 3; have hfz74_4 := blk_frozen BK218.out 4)))
             refine bodyPost_ret (results_ct rfl _ _ gb218 32 #[.int .i64 0, .int .i64 0, .int .i64 0, .int .i64 0, .int .i64 0] (0, 0) _ rfl (by (with_reducible repeat (first | refine bN_ ?_ _ | refine bD_ ?_ | refine bA_ ?_ _)); refine blk_put (cs := #[.int .i64 0, .int .i64 0, .int .i64 0, .int .i64 0, .int .i64 x2194_1]) ?_ 4 _ rfl; (with_reducible repeat (first | refine bN_ ?_ _ | refine bD_ ?_ | refine bA_ ?_ _)); refine blk_put (cs := #[.int .i64 0, .int .i64 0, .int .i64 0, .int .i64 x2193_1, .int .i64 x2194_1]) ?_ 3 _ rfl; (with_reducible repeat (first | refine bN_ ?_ _ | refine bD_ ?_ | refine bA_ ?_ _)); refine blk_put (cs := #[.int .i64 0, .int .i64 0, .int .i64 x2192_1, .int .i64 x2193_1, .int .i64 x2194_1]) ?_ 2 _ rfl; (with_reducible repeat (first | refine bN_ ?_ _ | refine bD_ ?_ | refine bA_ ?_ _)); refine blk_put (cs := #[.int .i64 0, .int .i64 x2191_1, .int .i64 x2192_1, .int .i64 x2193_1, .int .i64 x2194_1]) ?_ 1 _ rfl; (with_reducible repeat (first | refine bN_ ?_ _ | refine bD_ ?_ | refine bA_ ?_ _)); refine blk_put (cs := #[.int .i64 x2190_1, .int .i64 x2191_1, .int .i64 x2192_1, .int .i64 x2193_1, .int .i64 x2194_1]) ?_ 0 _ rfl; (with_reducible repeat (first | refine bN_ ?_ _ | refine bD_ ?_ | refine bA_ ?_ _)); exact BK218.out) Tryd.underlying32 rfl (by kernel_rfl)) rfl ?_
             exact ⟨by first | rfl | (simp [errW_none, errW_some] <;> rfl) | (simp [*, errW_none, errW_some] <;> rfl), by repeat (first | (with_reducible first | exact HB.out | apply hA_ | apply hN_ | apply hD_ | refine below_set ?_ GE218.out | refine below_set ?_ GE250.out) | exact HB.out)⟩
            ·rw [if_neg c70] at H
             have c70b0 : (t251.toList == ([] : List UInt8)) = false := beq_eq_false_iff_ne.mpr c70
             have c70b1 : (t251.toList != ([] : List UInt8)) = true := bne_iff_ne.mpr c70
             by_cases c75 : t251.toList = a0.toList
             ·rw [if_pos c75] at H
              have c75b0 : (t251.toList == a0.toList) = true := beq_iff_eq.mpr c75
              have c75b1 : (t251.toList != a0.toList) = false := bne_eq_false_iff_eq.mpr c75
              clear c75
              simp only [Option.some.injEq, Prod.mk.injEq] at H
              obtain ⟨rfl, rfl, rfl, rfl, rfl, rfl⟩ := H
              have hnb76 := NB250_218.out
              have hnc76 := NB218_250.out
              have hcz77_0 : wc.cell? ⟨gb250, 0, none⟩ = some (.int .i64 t249) := (blk_cell BK250.out 0).trans rfl
              have hcz77_1 : wc.cell? ⟨gb250, 1, none⟩ = some (.int .i64 x2511_25) := (blk_cell BK250.out 1).trans rfl
              have hcz77_2 : wc.cell? ⟨gb250, 2, none⟩ = some (.int .i64 x2512_25) := (blk_cell BK250.out 2).trans rfl
              have hcz77_3 : wc.cell? ⟨gb250, 3, none⟩ = some (.int .i64 x2513_25) := (blk_cell BK250.out 3).trans rfl
              have hcz77_4 : wc.cell? ⟨gb250, 4, none⟩ = some (.int .i64 x2514_25) := (blk_cell BK250.out 4).trans rfl
              have hfz77_0 := blk_frozen BK250.out 0
              have hfz77_1 := blk_frozen BK250.out 1
              have hfz77_2 := blk_frozen BK250.out 2
              have hfz77_3 := blk_frozen BK250.out 3
              have hfz77_4 := blk_frozen BK250.out 4
              go_wp2_with (first | (go_at_call 21; (with_reducible refine (impl_InsText.calls kj25 t249 x2511_25 x2512_25 x2513_25 x2514_25 t251 _ A69.out ?sT).mono ?_); (case sT => first | with_reducible exact hT | exact TabT.Laid.below hT (by repeat (first | (with_reducible first | exact HB.out | apply hA_ | apply hN_ | apply hD_ | refine below_set ?_ GE218.out | refine below_set ?_ GE250.out) | exact HB.out))); rintro e w78 ⟨rfl, hb⟩; have n0 := aM_ (blk_below (g := gb218) (o := .cells #[.int .i64 x2190_1, .int .i64 x2191_1, .int .i64 x2192_1, .int .i64 x2193_1, .int .i64 x2194_1] 32 (0, 0)) (by (with_reducible repeat (first | refine bN_ ?_ _ | refine bD_ ?_ | refine bA_ ?_ _)); exact BK218.out) hb); have n1 := aM_ (blk_below (g := gb250) (o := .cells #[.int .i64 t249, .int .i64 x2511_25, .int .i64 x2512_25, .int .i64 x2513_25, .int .i64 x2514_25] 32 (0, 0)) (by (with_reducible repeat (first | refine bN_ ?_ _ | refine bD_ ?_ | refine bA_ ?_ _)); exact BK250.out) hb); have n2 := aM_ (below_step (by repeat (first | (with_reducible first | exact HB.out | apply hA_ | apply hN_ | apply hD_ | refine below_set ?_ GE218.out | refine below_set ?_ GE250.out) | exact HB.out)) hb); clear BK218; clear BK250; clear HB; have BK218 := n0; have BK250 := n1; have HB := n2; clear n0 n1 n2; have hcz79_0 : w78.cell? ⟨gb250, 0, none⟩ = some (.int .i64 t249) := (blk_cell BK250.out 0).trans rfl; have hcz79_1 : w78.cell? ⟨gb250, 1, none⟩ = some (.int .i64 x2511_25) := (blk_cell BK250.out 1).trans rfl; have hcz79_2 : w78.cell? ⟨gb250, 2, none⟩ = some (.int .i64 x2512_25) := (blk_cell BK250.out 2).trans rfl; have hcz79_3 : w78.cell? ⟨gb250, 3, none⟩ = some (.int .i64 x2513_25) := (blk_cell BK250.out 3).trans rfl; have hcz79_4 : w78.cell? ⟨gb250, 4, none⟩ = some (.int .i64 x2514_25) := (blk_cell BK250.out 4).trans rfl; have hfz79_0 := blk_frozen BK250.out 0; have hfz79_1 := blk_frozen BK250.out 1; have hfz79_2 := blk_frozen BK250.out 2; have hfz79_3 := blk_frozen BK250.out 3; have hfz79_4 := blk_frozen BK250.out 4; have hcz80_0 : w78.cell? ⟨gb218, 0, none⟩ = some (.int .i64 x2190_1) := (blk_cell BK218.out 0).trans rfl; have hcz80_1 : w78.cell? ⟨gb218, 1, none⟩ = some (.int .i64 x2191_1) := (blk_cell BK218.out 1).trans rfl; have hcz80_2 : w78.cell? ⟨gb218, 2, none⟩ = some (.int .i64 x2192_1) := (blk_cell BK218.out 2).trans rfl; have hcz80_3 : w78.cell? ⟨gb218, 3, none⟩ = some (.int .i64 x2193_1) := (blk_cell BK218.out 3).trans rfl; have hcz80_4 : w78.cell? ⟨gb218, 4, none⟩ = some (.int .i64 x2194_1) := (blk_cell BK218.out 4).trans rfl; have hfz80_0 := blk_frozen BK218.out 0; have hfz80_1 := blk_frozen BK218.out 1; have hfz80_2 := blk_frozen BK218.out 2; have hfz80_3 := blk_frozen BK218.out 3; have hfz80_4 := blk_frozen BK218.out 4))
              repeat (go_quiet (first | (go_at_call 21; (with_reducible refine (impl_InsText.calls kj25 t249 x2511_25 x2512_25 x2513_25 x2514_25 t251 _ A69.out ?sT).mono ?_); (case sT => first | with_reducible exact hT | exact TabT.Laid.below hT (by repeat (first | (with_reducible first | exact HB.out | apply hA_ | apply hN_ | apply hD_ | refine below_set ?_ GE218.out | refine below_set ?_ GE250.out) | exact HB.out))); rintro e w78 ⟨rfl, hb⟩; have n0 := aM_ (blk_below (g := gb218) (o := .cells #[.int .i64 x2190_1, .int .i64 x2191_1, .int .i64 x2192_1, .int .i64 x2193_1, .int .i64 x2194_1] 32 (0, 0)) (by (with_reducible repeat (first | refine bN_ ?_ _ | refine bD_ ?_ | refine bA_ ?_ _)); exact BK218.out) hb); have n1 := aM_ (blk_below (g := gb250) (o := .cells #[.int .i64 t249, .int .i64 x2511_25, .int .i64 x2512_25, .int .i64 x2513_25, .int .i64 x2514_25] 32 (0, 0)) (by (with_reducible repeat (first | refine bN_ ?_ _ | refine bD_ ?_ | refine bA_ ?_ _)); exact BK250.out) hb); have n2 := aM_ (below_step (by repeat (first | (with_reducible first | exact HB.out | apply hA_ | apply hN_ | apply hD_ | refine below_set ?_ GE218.out | refine below_set ?_ GE250.out) | exact HB.out)) hb); clear BK218; clear BK250; clear HB; have BK218 := n0; have BK250 := n1; have HB := n2; clear n0 n1 n2; have hcz79_0 : w78.cell? ⟨gb250, 0, none⟩ = some (.int .i64 t249) := (blk_cell BK250.out 0).trans rfl; have hcz79_1 : w78.cell? ⟨gb250, 1, none⟩ = some (.int .i64 x2511_25) := (blk_cell BK250.out 1).trans rfl; have hcz79_2 : w78.cell? ⟨gb250, 2, none⟩ = some (.int .i64 x2512_25) := (blk_cell BK250.out 2).trans rfl; have hcz79_3 : w78.cell? ⟨gb250, 3, none⟩ = some (.int .i64 x2513_25) := (blk_cell BK250.out 3).trans rfl; have hcz79_4 : w78.cell? ⟨gb250, 4, none⟩ = some (.int .i64 x2514_25) := (blk_cell BK250.out 4).trans rfl; have hfz79_0 := blk_frozen BK250.out 0; have hfz79_1 := blk_frozen BK250.out 1; have hfz79_2 := blk_frozen BK250.out 2; have hfz79_3 := blk_frozen BK250.out 3; have hfz79_4 := blk_frozen BK250.out 4; have hcz80_0 : w78.cell? ⟨gb218, 0, none⟩ = some (.int .i64 x2190_1) := (blk_cell BK218.out 0).trans rfl; have hcz80_1 : w78.cell? ⟨gb218, 1, none⟩ = some (.int .i64 x2191_1) := (blk_cell BK218.out 1).trans rfl; have hcz80_2 : w78.cell? ⟨gb218, 2, none⟩ = some (.int .i64 x2192_1) := (blk_cell BK218.out 2).trans rfl; have hcz80_3 : w78.cell? ⟨gb218, 3, none⟩ = some (.int .i64 x2193_1) := (blk_cell BK218.out 3).trans rfl; have hcz80_4 : w78.cell? ⟨gb218, 4, none⟩ = some (.int .i64 x2194_1) := (blk_cell BK218.out 4).trans rfl; have hfz80_0 := blk_frozen BK218.out 0; have hfz80_1 := blk_frozen BK218.out 1; have hfz80_2 := blk_frozen BK218.out 2; have hfz80_3 := blk_frozen BK218.out 3; have hfz80_4 := blk_frozen BK218.out 4)); try go_wp2_with (first | (go_at_call 21; (with_reducible refine (impl_InsText.calls kj25 t249 x2511_25 x2512_25 x2513_25 x2514_25 t251 _ A69.out ?sT).mono ?_); (case sT => first | with_reducible exact hT | exact TabT.Laid.below hT (by repeat (first | (with_reducible first | exact HB.out | apply hA_ | apply hN_ | apply hD_ | refine below_set ?_ GE218.out | refine below_set ?_ GE250.out) | exact HB.out))); rintro e w78 ⟨rfl, hb⟩; have n0 := aM_ (blk_below (g := gb218) (o := .cells #[.int .i64 x2190_1, .int .i64 x2191_1, .int .i64 x2192_1, .int .i64 x2193_1, .int .i64 x2194_1] 32 (0, 0)) (by (with_reducible repeat (first | refine bN_ ?_ _ | refine bD_ ?_ | refine bA_ ?_ _)); exact BK218.out) hb); have n1 := aM_ (blk_below (g := gb250) (o := .cells #[.int .i64 t249, .int .i64 x2511_25, .int .i64 x2512_25, .int .i64 x2513_25, .int .i64 x2514_25] 32 (0, 0)) (by (with_reducible repeat (first | refine bN_ ?_ _ | refine bD_ ?_ | refine bA_ ?_ _)); exact BK250.out) hb); have n2 := aM_ (below_step (by repeat (first | (with_reducible first | exact HB.out | apply hA_ | apply hN_ | apply hD_ | refine below_set ?_ GE218.out | refine below_set ?_ GE250.out) | exact HB.out)) hb); clear BK218; clear BK250; clear HB; have BK218 := n0; have BK250 := n1; have HB := n2; clear n0 n1 n2; have hcz79_0 : w78.cell? ⟨gb250, 0, none⟩ = some (.int .i64 t249) := (blk_cell BK250.out 0).trans rfl; have hcz79_1 : w78.cell? ⟨gb250, 1, none⟩ = some (.int .i64 x2511_25) := (blk_cell BK250.out 1).trans rfl; have hcz79_2 : w78.cell? ⟨gb250, 2, none⟩ = some (.int .i64 x2512_25) := (blk_cell BK250.out 2).trans rfl; have hcz79_3 : w78.cell? ⟨gb250, 3, none⟩ = some (.int .i64 x2513_25) := (blk_cell BK250.out 3).trans rfl; have hcz79_4 : w78.cell? ⟨gb250, 4, none⟩ = some (.int .i64 x2514_25) := (blk_cell BK250.out 4).trans rfl; have hfz79_0 := blk_frozen BK250.out 0; have hfz79_1 := blk_frozen BK250.out 1; have hfz79_2 := blk_frozen BK250.out 2; have hfz79_3 := blk_frozen BK250.out 3; have hfz79_4 := blk_frozen BK250.out 4; have hcz80_0 : w78.cell? ⟨gb218, 0, none⟩ = some (.int .i64 x2190_1) := (blk_cell BK218.out 0).trans rfl; have hcz80_1 : w78.cell? ⟨gb218, 1, none⟩ = some (.int .i64 x2191_1) := (blk_cell BK218.out 1).trans rfl; have hcz80_2 : w78.cell? ⟨gb218, 2, none⟩ = some (.int .i64 x2192_1) := (blk_cell BK218.out 2).trans rfl; have hcz80_3 : w78.cell? ⟨gb218, 3, none⟩ = some (.int .i64 x2193_1) := (blk_cell BK218.out 3).trans rfl; have hcz80_4 : w78.cell? ⟨gb218, 4, none⟩ = some (.int .i64 x2194_1) := (blk_cell BK218.out 4).trans rfl; have hfz80_0 := blk_frozen BK218.out 0; have hfz80_1 := blk_frozen BK218.out 1; have hfz80_2 := blk_frozen BK218.out 2; have hfz80_3 := blk_frozen BK218.out 3; have hfz80_4 := blk_frozen BK218.out 4)))
              refine bodyPost_ret (results_ct rfl _ _ gb218 32 #[.int .i64 t249, .int .i64 x2511_25, .int .i64 x2512_25, .int .i64 x2513_25, .int .i64 x2514_25] (0, 0) _ rfl (by (with_reducible repeat (first | refine bN_ ?_ _ | refine bD_ ?_ | refine bA_ ?_ _)); refine blk_put (cs := #[.int .i64 t249, .int .i64 x2511_25, .int .i64 x2512_25, .int .i64 x2513_25, .int .i64 x2194_1]) ?_ 4 _ rfl; (with_reducible repeat (first | refine bN_ ?_ _ | refine bD_ ?_ | refine bA_ ?_ _)); refine blk_put (cs := #[.int .i64 t249, .int .i64 x2511_25, .int .i64 x2512_25, .int .i64 x2193_1, .int .i64 x2194_1]) ?_ 3 _ rfl; (with_reducible repeat (first | refine bN_ ?_ _ | refine bD_ ?_ | refine bA_ ?_ _)); refine blk_put (cs := #[.int .i64 t249, .int .i64 x2511_25, .int .i64 x2192_1, .int .i64 x2193_1, .int .i64 x2194_1]) ?_ 2 _ rfl; (with_reducible repeat (first | refine bN_ ?_ _ | refine bD_ ?_ | refine bA_ ?_ _)); refine blk_put (cs := #[.int .i64 t249, .int .i64 x2191_1, .int .i64 x2192_1, .int .i64 x2193_1, .int .i64 x2194_1]) ?_ 1 _ rfl; (with_reducible repeat (first | refine bN_ ?_ _ | refine bD_ ?_ | refine bA_ ?_ _)); refine blk_put (cs := #[.int .i64 x2190_1, .int .i64 x2191_1, .int .i64 x2192_1, .int .i64 x2193_1, .int .i64 x2194_1]) ?_ 0 _ rfl; (with_reducible repeat (first | refine bN_ ?_ _ | refine bD_ ?_ | refine bA_ ?_ _)); exact BK218.out) Tryd.underlying32 rfl (by kernel_rfl)) rfl ?_
              exact ⟨by first | rfl | (simp [errW_none, errW_some] <;> rfl) | (simp [*, errW_none, errW_some] <;> rfl), by repeat (first | (with_reducible first | exact HB.out | apply hA_ | apply hN_ | apply hD_ | refine below_set ?_ GE218.out | refine below_set ?_ GE250.out) | exact HB.out)⟩
             ·rw [if_neg c75] at H
              have c75b0 : (t251.toList == a0.toList) = false := beq_eq_false_iff_ne.mpr c75
              have c75b1 : (t251.toList != a0.toList) = true := bne_iff_ne.mpr c75
              simp only [Option.some.injEq, Prod.mk.injEq] at H
              obtain ⟨rfl, rfl, rfl, rfl, rfl, rfl⟩ := H
              have hnb81 := NB250_218.out
              have hnc81 := NB218_250.out
              have hcz82_0 : wc.cell? ⟨gb250, 0, none⟩ = some (.int .i64 t249) := (blk_cell BK250.out 0).trans rfl
              have hcz82_1 : wc.cell? ⟨gb250, 1, none⟩ = some (.int .i64 x2511_25) := (blk_cell BK250.out 1).trans rfl
              have hcz82_2 : wc.cell? ⟨gb250, 2, none⟩ = some (.int .i64 x2512_25) := (blk_cell BK250.out 2).trans rfl
              have hcz82_3 : wc.cell? ⟨gb250, 3, none⟩ = some (.int .i64 x2513_25) := (blk_cell BK250.out 3).trans rfl
              have hcz82_4 : wc.cell? ⟨gb250, 4, none⟩ = some (.int .i64 x2514_25) := (blk_cell BK250.out 4).trans rfl
              have hfz82_0 := blk_frozen BK250.out 0
              have hfz82_1 := blk_frozen BK250.out 1
              have hfz82_2 := blk_frozen BK250.out 2
              have hfz82_3 := blk_frozen BK250.out 3
              have hfz82_4 := blk_frozen BK250.out 4
              go_wp2_with (first | (go_at_call 21; (with_reducible refine (impl_InsText.calls kj25 t249 x2511_25 x2512_25 x2513_25 x2514_25 t251 _ A69.out ?sT).mono ?_); (case sT => first | with_reducible exact hT | exact TabT.Laid.below hT (by repeat (first | (with_reducible first | exact HB.out | apply hA_ | apply hN_ | apply hD_ | refine below_set ?_ GE218.out | refine below_set ?_ GE250.out) | exact HB.out))); rintro e w83 ⟨rfl, hb⟩; have n0 := aM_ (blk_below (g := gb218) (o := .cells #[.int .i64 x2190_1, .int .i64 x2191_1, .int .i64 x2192_1, .int .i64 x2193_1, .int .i64 x2194_1] 32 (0, 0)) (by (with_reducible repeat (first | refine bN_ ?_ _ | refine bD_ ?_ | refine bA_ ?_ _)); exact BK218.out) hb); have n1 := aM_ (blk_below (g := gb250) (o := .cells #[.int .i64 t249, .int .i64 x2511_25, .int .i64 x2512_25, .int .i64 x2513_25, .int .i64 x2514_25] 32 (0, 0)) (by (with_reducible repeat (first | refine bN_ ?_ _ | refine bD_ ?_ | refine bA_ ?_ _)); exact BK250.out) hb); have n2 := aM_ (below_step (by repeat (first | (with_reducible first | exact HB.out | apply hA_ | apply hN_ | apply hD_ | refine below_set ?_ GE218.out | refine below_set ?_ GE250.out) | exact HB.out)) hb); clear BK218; clear BK250; clear HB; have BK218 := n0; have BK250 := n1; have HB := n2; clear n0 n1 n2; have hcz84_0 : w83.cell? ⟨gb218, 0, none⟩ = some (.int .i64 x2190_1) := (blk_cell BK218.out 0).trans rfl; have hcz84_1 : w83.cell? ⟨gb218, 1, none⟩ = some (.int .i64 x2191_1) := (blk_cell BK218.out 1).trans rfl; have hcz84_2 : w83.cell? ⟨gb218, 2, none⟩ = some (.int .i64 x2192_1) := (blk_cell BK218.out 2).trans rfl; have hcz84_3 : w83.cell? ⟨gb218, 3, none⟩ = some (.int .i64 x2193_1) := (blk_cell BK218.out 3).trans rfl; have hcz84_4 : w83.cell? ⟨gb218, 4, none⟩ = some (.int .i64 x2194_1) := (blk_cell BK218.out 4).trans rfl; have hfz84_0 := blk_frozen BK218.out 0; have hfz84_1 := blk_frozen BK218.out 1; have hfz84_2 := blk_frozen BK218.out 2; have hfz84_3 := blk_frozen BK218.out 3; have hfz84_4 := blk_frozen BK218.out 4))
              repeat (go_quiet (first | (go_at_call 21; (with_reducible refine (impl_InsText.calls kj25 t249 x2511_25 x2512_25 x2513_25 x2514_25 t251 _ A69.out ?sT).mono ?_); (case sT => first | with_reducible exact hT | exact TabT.Laid.below hT (by repeat (first | (with_reducible first | exact HB.out | apply hA_ | apply hN_ | apply hD_ | refine below_set ?_ GE218.out | refine below_set ?_ GE250.out) | exact HB.out))); rintro e w83 ⟨rfl, hb⟩; have n0 := aM_ (blk_below (g := gb218) (o := .cells #[.int .i64 x2190_1, .int .i64 x2191_1, .int .i64 x2192_1, .int .i64 x2193_1, .int .i64 x2194_1] 32 (0, 0)) (by (with_reducible repeat (first | refine bN_ ?_ _ | refine bD_ ?_ | refine bA_ ?_ _)); exact BK218.out) hb); have n1 := aM_ (blk_below (g := gb250) (o := .cells #[.int .i64 t249, .int .i64 x2511_25, .int .i64 x2512_25, .int .i64 x2513_25, .int .i64 x2514_25] 32 (0, 0)) (by (with_reducible repeat (first | refine bN_ ?_ _ | refine bD_ ?_ | refine bA_ ?_ _)); exact BK250.out) hb); have n2 := aM_ (below_step (by repeat (first | (with_reducible first | exact HB.out | apply hA_ | apply hN_ | apply hD_ | refine below_set ?_ GE218.out | refine below_set ?_ GE250.out) | exact HB.out)) hb); clear BK218; clear BK250; clear HB; have BK218 := n0; have BK250 := n1; have HB := n2; clear n0 n1 n2; have hcz84_0 : w83.cell? ⟨gb218, 0, none⟩ = some (.int .i64 x2190_1) := (blk_cell BK218.out 0).trans rfl; have hcz84_1 : w83.cell? ⟨gb218, 1, none⟩ = some (.int .i64 x2191_1) := (blk_cell BK218.out 1).trans rfl; have hcz84_2 : w83.cell? ⟨gb218, 2, none⟩ = some (.int .i64 x2192_1) := (blk_cell BK218.out 2).trans rfl; have hcz84_3 : w83.cell? ⟨gb218, 3, none⟩ = some (.int .i64 x2193_1) := (blk_cell BK218.out 3).trans rfl; have hcz84_4 : w83.cell? ⟨gb218, 4, none⟩ = some (.int .i64 x2194_1) := (blk_cell BK218.out 4).trans rfl; have hfz84_0 := blk_frozen BK218.out 0; have hfz84_1 := blk_frozen BK218.out 1; have hfz84_2 := blk_frozen BK218.out 2; have hfz84_3 := blk_frozen BK218.out 3; have hfz84_4 := blk_frozen BK218.out 4)); try go_wp2_with (first | (go_at_call 21; (with_reducible refine (impl_InsText.calls kj25 t249 x2511_25 x2512_25 x2513_25 x2514_25 t251 _ A69.out ?sT).mono ?_); (case sT => first | with_reducible exact hT | exact TabT.Laid.below hT (by repeat (first | (with_reducible first | exact HB.out | apply hA_ | apply hN_ | apply hD_ | refine below_set ?_ GE218.out | refine below_set ?_ GE250.out) | exact HB.out))); rintro e w83 ⟨rfl, hb⟩; have n0 := aM_ (blk_below (g := gb218) (o := .cells #[.int .i64 x2190_1, .int .i64 x2191_1, .int .i64 x2192_1, .int .i64 x2193_1, .int .i64 x2194_1] 32 (0, 0)) (by (with_reducible repeat (first | refine bN_ ?_ _ | refine bD_ ?_ | refine bA_ ?_ _)); exact BK218.out) hb); have n1 := aM_ (blk_below (g := gb250) (o := .cells #[.int .i64 t249, .int .i64 x2511_25, .int .i64 x2512_25, .int .i64 x2513_25, .int .i64 x2514_25] 32 (0, 0)) (by (with_reducible repeat (first | refine bN_ ?_ _ | refine bD_ ?_ | refine bA_ ?_ _)); exact BK250.out) hb); have n2 := aM_ (below_step (by repeat (first | (with_reducible first | exact HB.out | apply hA_ | apply hN_ | apply hD_ | refine below_set ?_ GE218.out | refine below_set ?_ GE250.out) | exact HB.out)) hb); clear BK218; clear BK250; clear HB; have BK218 := n0; have BK250 := n1; have HB := n2; clear n0 n1 n2; have hcz84_0 : w83.cell? ⟨gb218, 0, none⟩ = some (.int .i64 x2190_1) := (blk_cell BK218.out 0).trans rfl; have hcz84_1 : w83.cell? ⟨gb218, 1, none⟩ = some (.int .i64 x2191_1) := (blk_cell BK218.out 1).trans rfl; have hcz84_2 : w83.cell? ⟨gb218, 2, none⟩ = some (.int .i64 x2192_1) := (blk_cell BK218.out 2).trans rfl; have hcz84_3 : w83.cell? ⟨gb218, 3, none⟩ = some (.int .i64 x2193_1) := (blk_cell BK218.out 3).trans rfl; have hcz84_4 : w83.cell? ⟨gb218, 4, none⟩ = some (.int .i64 x2194_1) := (blk_cell BK218.out 4).trans rfl; have hfz84_0 := blk_frozen BK218.out 0; have hfz84_1 := blk_frozen BK218.out 1; have hfz84_2 := blk_frozen BK218.out 2; have hfz84_3 := blk_frozen BK218.out 3; have hfz84_4 := blk_frozen BK218.out 4)))
              refine bodyPost_ret (results_ct rfl _ _ gb218 32 #[.int .i64 0, .int .i64 0, .int .i64 0, .int .i64 0, .int .i64 0] (0, 0) _ rfl (by (with_reducible repeat (first | refine bN_ ?_ _ | refine bD_ ?_ | refine bA_ ?_ _)); refine blk_put (cs := #[.int .i64 0, .int .i64 0, .int .i64 0, .int .i64 0, .int .i64 x2194_1]) ?_ 4 _ rfl; (with_reducible repeat (first | refine bN_ ?_ _ | refine bD_ ?_ | refine bA_ ?_ _)); refine blk_put (cs := #[.int .i64 0, .int .i64 0, .int .i64 0, .int .i64 x2193_1, .int .i64 x2194_1]) ?_ 3 _ rfl; (with_reducible repeat (first | refine bN_ ?_ _ | refine bD_ ?_ | refine bA_ ?_ _)); refine blk_put (cs := #[.int .i64 0, .int .i64 0, .int .i64 x2192_1, .int .i64 x2193_1, .int .i64 x2194_1]) ?_ 2 _ rfl; (with_reducible repeat (first | refine bN_ ?_ _ | refine bD_ ?_ | refine bA_ ?_ _)); refine blk_put (cs := #[.int .i64 0, .int .i64 x2191_1, .int .i64 x2192_1, .int .i64 x2193_1, .int .i64 x2194_1]) ?_ 1 _ rfl; (with_reducible repeat (first | refine bN_ ?_ _ | refine bD_ ?_ | refine bA_ ?_ _)); refine blk_put (cs := #[.int .i64 x2190_1, .int .i64 x2191_1, .int .i64 x2192_1, .int .i64 x2193_1, .int .i64 x2194_1]) ?_ 0 _ rfl; (with_reducible repeat (first | refine bN_ ?_ _ | refine bD_ ?_ | refine bA_ ?_ _)); exact BK218.out) Tryd.underlying32 rfl (by kernel_rfl)) rfl ?_
              exact ⟨by first | rfl | (simp [errW_none, errW_some] <;> rfl) | (simp [*, errW_none, errW_some] <;> rfl), by repeat (first | (with_reducible first | exact HB.out | apply hA_ | apply hN_ | apply hD_ | refine below_set ?_ GE218.out | refine below_set ?_ GE250.out) | exact HB.out)⟩
         ·rw [if_neg c24] at H
          exact absurd H (by simp)
        ·rw [if_neg c23] at H
         exact absurd H (by simp)
       ·rw [if_neg c22] at H
        exact absurd H (by simp)
      ·rw [if_neg c21] at H
       exact absurd H (by simp)
     ·rw [if_neg c20] at H
      exact absurd H (by simp)
 ·rw [if_neg c3] at H
  exact absurd H (by simp)
end Go.Proofs.YtkjfcmgpplapeaaDoor.PFnExactInsRead
