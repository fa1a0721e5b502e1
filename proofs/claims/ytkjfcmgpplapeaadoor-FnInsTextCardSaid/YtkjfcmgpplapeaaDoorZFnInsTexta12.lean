/- A part of the proof that the law FnInsText holds for every input: the words, functions and walks that its row needs, without a condition of their own. -/
import Derived.Test.YtkjfcmgpplapeaaDoorZFnInsTexta4
import Derived.Test.YtkjfcmgpplapeaaDoorZFnInsTexta8
import Derived.Test.YtkjfcmgpplapeaaDoorZFnInsTexta11
import Derived.Test.YtkjfcmgpplapeaaDoorZFnInsTexts
namespace Go.Proofs.YtkjfcmgpplapeaaDoor.PFnInsText
open Go.RowKit Go.Proofs.YtkjfcmgpplapeaaDoorW.PrintWords Go.Proofs.YtkjfcmgpplapeaaDoorW.PrintLast Go.Proofs.YtkjfcmgpplapeaaDoorW.PrintMore
attribute [local go_sem] max2_int min2_int max_two min_two max_three min_three max_four min_four   -- for this text's walks alone
set_option linter.unusedVariables false
set_option linter.unusedSimpArgs false
mutual
def impl_InsRead.l0 : Nat → ByteArray → List ByteArray → List Int → List ByteArray → Int → Int → Option (Int × Int × Int × Int × Int × Bool)
  | 0, _, _, _, _, _, _ => none
  | k + 1, x0, x4, x5, x20, x21, x22 => if x22 < x21 then (if 0 ≤ x22 then (if x22 < (x20.length : Int) then ((strconv_Atoi_102.f (rdOf ByteArray.empty x20 x22)).bind fun bt395 => (if bt395.2.isNone = true then (if x5.length < 17592186044416 then (impl_InsRead.l0 k x0 x4 (x5 ++ [bt395.1]) x20 x21 (wrap64 (x22 + 1))) else (none)) else (some (0, 0, 0, 0, 0, false)))) else (none)) else (none)) else ((impl_copyInts.f x5).bind fun t401 => ((some (([0, 0, 0] : List Int) : List Int)).bind fun y404 => (if t401.length + y404.length < 17592186044416 then ((some (t401 ++ y404 : List Int)).bind fun y407 => (if 0 < (y407.length : Int) then (if 1 < (y407.length : Int) then (if 2 < (y407.length : Int) then (if 0 < (x4.length : Int) then ((impl_opOf.f k (rdOf ByteArray.empty x4 0)).bind fun t414 => (if t414 = 1 then (impl_InsRead.j4 k x0 t414 (rd y407 0) 0 0 (rd y407 1)) else (if t414 = 2 then (impl_InsRead.j1 k x0 (rd y407 0) (rd y407 1) (rd y407 2) t414 (t414 == 2) t414 0 0 0 0) else (if t414 = 3 then (impl_InsRead.j1 k x0 (rd y407 0) (rd y407 1) (rd y407 2) t414 (t414 == 3) t414 0 0 0 0) else (impl_InsRead.j1 k x0 (rd y407 0) (rd y407 1) (rd y407 2) t414 (t414 == 4) t414 0 0 0 0))))) else (none)) else (none)) else (none)) else (none))) else (none))))
def impl_InsRead.j4 : Nat → ByteArray → Int → Int → Int → Int → Int → Option (Int × Int × Int × Int × Int × Bool)
  | 0, _, _, _, _, _, _ => none
  | k + 1, x0, x416000, x416001, x416002, x416003, x416004 => (impl_InsText.f k x416000 x416001 x416002 x416003 x416004).bind fun t416 => (if t416.toList = ([] : List UInt8) then (some (0, 0, 0, 0, 0, false)) else (if t416.toList = x0.toList then (some (x416000, x416001, x416002, x416003, x416004, true)) else (some (0, 0, 0, 0, 0, false))))
def impl_InsRead.j1 : Nat → ByteArray → Int → Int → Int → Int → Bool → Int → Int → Int → Int → Int → Option (Int × Int × Int × Int × Int × Bool)
  | 0, _, _, _, _, _, _, _, _, _, _, _ => none
  | k + 1, x0, x11, x12, x13, x58, x65, x416000, x416001, x416002, x416003, x416004 => if x65 = true then (impl_InsRead.j4 k x0 x416000 x11 x12 x13 x416004) else (if x58 = 5 then (impl_InsRead.j4 k x0 x416000 x416001 x12 x416003 x11) else (if x58 = 6 then (impl_InsRead.j2 k x0 x11 x12 x13 x58 (x58 == 6) x416000 x416001 x416002 x416003 x416004) else (impl_InsRead.j2 k x0 x11 x12 x13 x58 (x58 == 8) x416000 x416001 x416002 x416003 x416004)))
def impl_InsRead.j2 : Nat → ByteArray → Int → Int → Int → Int → Bool → Int → Int → Int → Int → Int → Option (Int × Int × Int × Int × Int × Bool)
  | 0, _, _, _, _, _, _, _, _, _, _, _ => none
  | k + 1, x0, x11, x12, x13, x58, x81, x416000, x416001, x416002, x416003, x416004 => if x81 = true then (impl_InsRead.j4 k x0 x416000 x11 x416002 x12 x13) else (if x58 = 7 then (impl_InsRead.j4 k x0 x416000 x11 x13 x416003 x12) else (if x58 = 9 then (impl_InsRead.j3 k x0 x11 x12 x58 (x58 == 9) x416000 x416001 x416002 x416003 x416004) else (impl_InsRead.j3 k x0 x11 x12 x58 (x58 == 11) x416000 x416001 x416002 x416003 x416004)))
def impl_InsRead.j3 : Nat → ByteArray → Int → Int → Int → Bool → Int → Int → Int → Int → Int → Option (Int × Int × Int × Int × Int × Bool)
  | 0, _, _, _, _, _, _, _, _, _, _ => none
  | k + 1, x0, x11, x12, x58, x98, x416000, x416001, x416002, x416003, x416004 => if x98 = true then (impl_InsRead.j4 k x0 x416000 x416001 x416002 x416003 x11) else (if x58 = 10 then (impl_InsRead.j4 k x0 x416000 x416001 x11 x416003 x416004) else (if x58 = 12 then (impl_InsRead.j4 k x0 x416000 x416001 x11 x416003 x12) else (impl_InsRead.j4 k x0 x416000 x416001 x416002 x416003 x416004)))
end
def impl_InsRead.f (k : Nat) (a0 : ByteArray) : Option (Int × Int × Int × Int × Int × Bool) := (strings_Split.f a0 (⟨#[32]⟩ : ByteArray)).bind fun t384 => (if 1 ≤ (t384.length : Int) then ((some (t384.drop 1 : List ByteArray)).bind fun y390 => (impl_InsRead.l0 k a0 t384 (([] : List Int)) y390 (y390.length : Int) 0)) else (none))
set_option maxHeartbeats 8000000 in
set_option maxRecDepth 100000 in
theorem impl_InsRead.calls (k : Nat) (a0 : ByteArray) (r1 : Int) (r2 : Int) (r3 : Int) (r4 : Int) (r5 : Int) (r6 : Bool) (w : World) (h : impl_InsRead.f k a0 = some (r1, r2, r3, r4, r5, r6)) (hT : TabT.Laid w) :
  Calls Tryd.prog 50 #[.string a0] w fun e w' => e = .returned (.tuple #[.agg #[.int .i64 r1, .int .i64 r2, .int .i64 r3, .int .i64 r4, .int .i64 r5], .bool r6]) ∧ Below w.heap.size w w' := by
 have hu32 := Tryd.underlying32
 have hu121 := Tryd.underlying121
 have hu164 := Tryd.underlying164
 have HB := aM_ (Below.refl w.heap.size w)
 have H : ((strings_Split.f a0 (⟨#[32]⟩ : ByteArray)).bind fun t384 => (if 1 ≤ (t384.length : Int) then ((some (t384.drop 1 : List ByteArray)).bind fun y390 => (impl_InsRead.l0 k a0 t384 (([] : List Int)) y390 (y390.length : Int) 0)) else (none))) = some (r1, r2, r3, r4, r5, r6) := h
 clear h
 replace H := Option.bind_eq_some_iff.mp H
 obtain ⟨t384, A20, H⟩ := H
 replace H : (if 1 ≤ (t384.length : Int) then ((some (t384.drop 1 : List ByteArray)).bind fun y390 => (impl_InsRead.l0 k a0 t384 (([] : List Int)) y390 (y390.length : Int) 0)) else (none)) = some (r1, r2, r3, r4, r5, r6) := H
 have A2 := aM_ A20
 clear A20
 obtain ⟨y387, hy387⟩ : ∃ y_ : List Int, y_ = (([] : List Int)) := ⟨_, rfl⟩
 replace H : (if 1 ≤ (t384.length : Int) then ((some (t384.drop 1 : List ByteArray)).bind fun y390 => (impl_InsRead.l0 k a0 t384 y387 y390 (y390.length : Int) 0)) else (none)) = some (r1, r2, r3, r4, r5, r6) := by first | (rw [hy387]; with_reducible exact H) | (have H2_ := (Option.bind_some _ _).symm.trans H; rw [hy387]; with_reducible exact H2_) | (have H2_ := (Option.bind_some _ _).symm.trans H; with_reducible exact H2_) | with_reducible exact H | (rw [hy387]; exact H) | exact H
 have Ny387 := aM_ hy387
 clear hy387
 by_cases c3 : 1 ≤ (t384.length : Int)
 ·rw [if_pos c3] at H
  have c3b0 := eq_true c3
  have c3b1 : decide (1 ≤ (t384.length : Int)) = true := decide_eq_true c3
  clear c3
  obtain ⟨y390, hy390⟩ : ∃ y_ : List ByteArray, y_ = (t384.drop 1) := ⟨_, rfl⟩
  replace H : (impl_InsRead.l0 k a0 t384 y387 y390 (y390.length : Int) 0) = some (r1, r2, r3, r4, r5, r6) := by first | (rw [hy390]; with_reducible exact H) | (have H2_ := (Option.bind_some _ _).symm.trans H; rw [hy390]; with_reducible exact H2_) | (have H2_ := (Option.bind_some _ _).symm.trans H; with_reducible exact H2_) | with_reducible exact H | (rw [hy390]; exact H) | exact H
  have Ny390 := aM_ hy390
  clear hy390
  have H' := aM_ H
  clear H
  go_enter Tryd.func50, Tryd.ntmps50
  go_wp2_with (first | ((with_reducible refine gate_dst (N := 2) rfl ?_); refine bX_ 2 (cs := #[.int .i64 0, .int .i64 0, .int .i64 0, .int .i64 0, .int .i64 0]) (t := 32) ?_; intro gb383 hg w4 hbox hb; have n0 := aM_ (sT_ HB.out hb); have n1 := aM_ (hbox); have n2 := aM_ (sZ_ hg HB.out); have n3 := aM_ (sZ_ hg HB.out); clear HB; have HB := n0; have BK383 := n1; have GW383 := n2; have GE383 := n3; clear n0 n1 n2 n3; clear hb hbox hg) | (go_at_call 101; (with_reducible refine (strings_Split.calls a0 (⟨#[32]⟩ : ByteArray) t384 _ A2.out ?sT).mono ?_); (case sT => first | with_reducible exact hT | exact TabT.Laid.below hT (by repeat (first | (with_reducible first | exact HB.out | apply hA_ | apply hN_ | apply hD_ | refine below_set ?_ GE383.out | refine below_set ?_ GE415.out) | exact HB.out))); rintro e w5 ⟨v385, rfl, ho0, hb⟩; have n0 := aM_ (Kd.R_lower ho0 (below_size (by repeat (first | (with_reducible first | exact HB.out | apply hA_ | apply hN_ | apply hD_ | refine below_set ?_ GE383.out) | exact HB.out)))); have n1 := aM_ (nB_ BK383.out hb); have n2 := aM_ (sT_ HB.out hb); clear BK383; clear HB; have HO386 := n0; have BK383 := n1; have HB := n2; clear n0 n1 n2; (try clear ho0)) | ((with_reducible refine gate_dst (N := 18) rfl ?_); refine Kd.R_lit (Kd.int .i64) _ 3 ?hg (N := 18) ?hd (xs := ([] : List Int)) (inner := []) (ok := fun _ => True) (okp := fun _ => True) ?hr ?hp (fun _ hk => hk) trivial (Below.refl _ _) (Nat.le_refl _) (by simp) ?_; (case hd => rfl); (case hg => rfl); (case hr => first | (go_simp; done) | (go_simp; rfl)); (case hp => exact (Reps.none _ _)); intro v388 w6 ho7 hb hg_ hnew_; clear hg_ hnew_; (first | rw [← Ny387.out] at ho7 | (simp only [Int.reduceToNat] at ho7; rw [← Ny387.out] at ho7)); have n0 := aM_ (bR_ HO386.out hb); have n1 := aM_ (Kd.R_lower ho7 (below_size (by repeat (first | (with_reducible first | exact HB.out | apply hA_ | apply hN_ | apply hD_ | refine below_set ?_ GE383.out) | exact HB.out)))); have n2 := aM_ (nB_ BK383.out hb); have n3 := aM_ (sT_ HB.out hb); clear HO386; clear BK383; clear HB; have HO386 := n0; have HO389 := n1; have BK383 := n2; have HB := n3; clear n0 n1 n2 n3; clear hb ho7; obtain ⟨Ao9, co9, eo9⟩ := Kd.R_slice HO386.out; subst eo9; have q8 : (1 : Int) ≤ ((t384.length : Int) : Int) := of_decide_eq_true (by first | (with_reducible assumption) | assumption); obtain ⟨i08, hi08, _, hsz8, _⟩ := info_parts info9; have hroom8 : t384.length ≤ co9 := (Kd.R_reads' HO386.out).2.1; have hC8 : Kd.C Kd.string _ Ao9 t384.length t384 := (Kd.R_reads' HO386.out).2.2; have hcut8 := cut_from (P := Tryd.prog) 93 9 .i64 Tryd.underlying93 hi08 1 hsz8 Ao9 t384.length co9 1 (by omega) q8; have hr8 := Kd.C_drop (m := (1 : Int).toNat) (c := co9) hC8 (by omega) hroom8; obtain ⟨A8, hA8⟩ : ∃ A1, A1 = (if co9 = (1 : Int).toNat then Ao9 else (Ao9 : Option Addr).map (·.add ((1 : Int).toNat * 1))) := ⟨_, rfl⟩; obtain ⟨c8, hc8⟩ : ∃ c1, c1 = co9 - (1 : Int).toNat := ⟨_, rfl⟩; have hy8 : y390.length = t384.length - (1 : Int).toNat := (by rw [Ny390.out, List.length_drop] <;> omega); rw [show (t384).drop (1 : Int).toNat = y390 from Ny390.out.symm] at hr8; replace hr8 : Kd.C Kd.string _ A8 y390.length y390 := (by rw [hA8]; exact hr8); rw [← hy8, ← hA8, ← hc8] at hcut8; have HR393 := aM_ hr8; have HC393 := aM_ (show y390.length ≤ c8 from by rw [hy8, hc8]; exact Nat.sub_le_sub_right hroom8 _); clear hr8 hC8 hroom8 hi08 hsz8 hc8; have KY8 := aM_ hy8; have KA8 := aM_ hA8; clear hy8 hA8; have KL8 := aM_ (show 1 ≤ t384.length from by omega); replace q8 := eq_true q8))
  repeat (go_quiet (first | ((with_reducible refine gate_dst (N := 2) rfl ?_); refine bX_ 2 (cs := #[.int .i64 0, .int .i64 0, .int .i64 0, .int .i64 0, .int .i64 0]) (t := 32) ?_; intro gb383 hg w4 hbox hb; have n0 := aM_ (sT_ HB.out hb); have n1 := aM_ (hbox); have n2 := aM_ (sZ_ hg HB.out); have n3 := aM_ (sZ_ hg HB.out); clear HB; have HB := n0; have BK383 := n1; have GW383 := n2; have GE383 := n3; clear n0 n1 n2 n3; clear hb hbox hg) | (go_at_call 101; (with_reducible refine (strings_Split.calls a0 (⟨#[32]⟩ : ByteArray) t384 _ A2.out ?sT).mono ?_); (case sT => first | with_reducible exact hT | exact TabT.Laid.below hT (by repeat (first | (with_reducible first | exact HB.out | apply hA_ | apply hN_ | apply hD_ | refine below_set ?_ GE383.out | refine below_set ?_ GE415.out) | exact HB.out))); rintro e w5 ⟨v385, rfl, ho0, hb⟩; have n0 := aM_ (Kd.R_lower ho0 (below_size (by repeat (first | (with_reducible first | exact HB.out | apply hA_ | apply hN_ | apply hD_ | refine below_set ?_ GE383.out) | exact HB.out)))); have n1 := aM_ (nB_ BK383.out hb); have n2 := aM_ (sT_ HB.out hb); clear BK383; clear HB; have HO386 := n0; have BK383 := n1; have HB := n2; clear n0 n1 n2; (try clear ho0)) | ((with_reducible refine gate_dst (N := 18) rfl ?_); refine Kd.R_lit (Kd.int .i64) _ 3 ?hg (N := 18) ?hd (xs := ([] : List Int)) (inner := []) (ok := fun _ => True) (okp := fun _ => True) ?hr ?hp (fun _ hk => hk) trivial (Below.refl _ _) (Nat.le_refl _) (by simp) ?_; (case hd => rfl); (case hg => rfl); (case hr => first | (go_simp; done) | (go_simp; rfl)); (case hp => exact (Reps.none _ _)); intro v388 w6 ho7 hb hg_ hnew_; clear hg_ hnew_; (first | rw [← Ny387.out] at ho7 | (simp only [Int.reduceToNat] at ho7; rw [← Ny387.out] at ho7)); have n0 := aM_ (bR_ HO386.out hb); have n1 := aM_ (Kd.R_lower ho7 (below_size (by repeat (first | (with_reducible first | exact HB.out | apply hA_ | apply hN_ | apply hD_ | refine below_set ?_ GE383.out) | exact HB.out)))); have n2 := aM_ (nB_ BK383.out hb); have n3 := aM_ (sT_ HB.out hb); clear HO386; clear BK383; clear HB; have HO386 := n0; have HO389 := n1; have BK383 := n2; have HB := n3; clear n0 n1 n2 n3; clear hb ho7; obtain ⟨Ao9, co9, eo9⟩ := Kd.R_slice HO386.out; subst eo9; have q8 : (1 : Int) ≤ ((t384.length : Int) : Int) := of_decide_eq_true (by first | (with_reducible assumption) | assumption); obtain ⟨i08, hi08, _, hsz8, _⟩ := info_parts info9; have hroom8 : t384.length ≤ co9 := (Kd.R_reads' HO386.out).2.1; have hC8 : Kd.C Kd.string _ Ao9 t384.length t384 := (Kd.R_reads' HO386.out).2.2; have hcut8 := cut_from (P := Tryd.prog) 93 9 .i64 Tryd.underlying93 hi08 1 hsz8 Ao9 t384.length co9 1 (by omega) q8; have hr8 := Kd.C_drop (m := (1 : Int).toNat) (c := co9) hC8 (by omega) hroom8; obtain ⟨A8, hA8⟩ : ∃ A1, A1 = (if co9 = (1 : Int).toNat then Ao9 else (Ao9 : Option Addr).map (·.add ((1 : Int).toNat * 1))) := ⟨_, rfl⟩; obtain ⟨c8, hc8⟩ : ∃ c1, c1 = co9 - (1 : Int).toNat := ⟨_, rfl⟩; have hy8 : y390.length = t384.length - (1 : Int).toNat := (by rw [Ny390.out, List.length_drop] <;> omega); rw [show (t384).drop (1 : Int).toNat = y390 from Ny390.out.symm] at hr8; replace hr8 : Kd.C Kd.string _ A8 y390.length y390 := (by rw [hA8]; exact hr8); rw [← hy8, ← hA8, ← hc8] at hcut8; have HR393 := aM_ hr8; have HC393 := aM_ (show y390.length ≤ c8 from by rw [hy8, hc8]; exact Nat.sub_le_sub_right hroom8 _); clear hr8 hC8 hroom8 hi08 hsz8 hc8; have KY8 := aM_ hy8; have KA8 := aM_ hA8; clear hy8 hA8; have KL8 := aM_ (show 1 ≤ t384.length from by omega); replace q8 := eq_true q8)); try go_wp2_with (first | ((with_reducible refine gate_dst (N := 2) rfl ?_); refine bX_ 2 (cs := #[.int .i64 0, .int .i64 0, .int .i64 0, .int .i64 0, .int .i64 0]) (t := 32) ?_; intro gb383 hg w4 hbox hb; have n0 := aM_ (sT_ HB.out hb); have n1 := aM_ (hbox); have n2 := aM_ (sZ_ hg HB.out); have n3 := aM_ (sZ_ hg HB.out); clear HB; have HB := n0; have BK383 := n1; have GW383 := n2; have GE383 := n3; clear n0 n1 n2 n3; clear hb hbox hg) | (go_at_call 101; (with_reducible refine (strings_Split.calls a0 (⟨#[32]⟩ : ByteArray) t384 _ A2.out ?sT).mono ?_); (case sT => first | with_reducible exact hT | exact TabT.Laid.below hT (by repeat (first | (with_reducible first | exact HB.out | apply hA_ | apply hN_ | apply hD_ | refine below_set ?_ GE383.out | refine below_set ?_ GE415.out) | exact HB.out))); rintro e w5 ⟨v385, rfl, ho0, hb⟩; have n0 := aM_ (Kd.R_lower ho0 (below_size (by repeat (first | (with_reducible first | exact HB.out | apply hA_ | apply hN_ | apply hD_ | refine below_set ?_ GE383.out) | exact HB.out)))); have n1 := aM_ (nB_ BK383.out hb); have n2 := aM_ (sT_ HB.out hb); clear BK383; clear HB; have HO386 := n0; have BK383 := n1; have HB := n2; clear n0 n1 n2; (try clear ho0)) | ((with_reducible refine gate_dst (N := 18) rfl ?_); refine Kd.R_lit (Kd.int .i64) _ 3 ?hg (N := 18) ?hd (xs := ([] : List Int)) (inner := []) (ok := fun _ => True) (okp := fun _ => True) ?hr ?hp (fun _ hk => hk) trivial (Below.refl _ _) (Nat.le_refl _) (by simp) ?_; (case hd => rfl); (case hg => rfl); (case hr => first | (go_simp; done) | (go_simp; rfl)); (case hp => exact (Reps.none _ _)); intro v388 w6 ho7 hb hg_ hnew_; clear hg_ hnew_; (first | rw [← Ny387.out] at ho7 | (simp only [Int.reduceToNat] at ho7; rw [← Ny387.out] at ho7)); have n0 := aM_ (bR_ HO386.out hb); have n1 := aM_ (Kd.R_lower ho7 (below_size (by repeat (first | (with_reducible first | exact HB.out | apply hA_ | apply hN_ | apply hD_ | refine below_set ?_ GE383.out) | exact HB.out)))); have n2 := aM_ (nB_ BK383.out hb); have n3 := aM_ (sT_ HB.out hb); clear HO386; clear BK383; clear HB; have HO386 := n0; have HO389 := n1; have BK383 := n2; have HB := n3; clear n0 n1 n2 n3; clear hb ho7; obtain ⟨Ao9, co9, eo9⟩ := Kd.R_slice HO386.out; subst eo9; have q8 : (1 : Int) ≤ ((t384.length : Int) : Int) := of_decide_eq_true (by first | (with_reducible assumption) | assumption); obtain ⟨i08, hi08, _, hsz8, _⟩ := info_parts info9; have hroom8 : t384.length ≤ co9 := (Kd.R_reads' HO386.out).2.1; have hC8 : Kd.C Kd.string _ Ao9 t384.length t384 := (Kd.R_reads' HO386.out).2.2; have hcut8 := cut_from (P := Tryd.prog) 93 9 .i64 Tryd.underlying93 hi08 1 hsz8 Ao9 t384.length co9 1 (by omega) q8; have hr8 := Kd.C_drop (m := (1 : Int).toNat) (c := co9) hC8 (by omega) hroom8; obtain ⟨A8, hA8⟩ : ∃ A1, A1 = (if co9 = (1 : Int).toNat then Ao9 else (Ao9 : Option Addr).map (·.add ((1 : Int).toNat * 1))) := ⟨_, rfl⟩; obtain ⟨c8, hc8⟩ : ∃ c1, c1 = co9 - (1 : Int).toNat := ⟨_, rfl⟩; have hy8 : y390.length = t384.length - (1 : Int).toNat := (by rw [Ny390.out, List.length_drop] <;> omega); rw [show (t384).drop (1 : Int).toNat = y390 from Ny390.out.symm] at hr8; replace hr8 : Kd.C Kd.string _ A8 y390.length y390 := (by rw [hA8]; exact hr8); rw [← hy8, ← hA8, ← hc8] at hcut8; have HR393 := aM_ hr8; have HC393 := aM_ (show y390.length ≤ c8 from by rw [hy8, hc8]; exact Nat.sub_le_sub_right hroom8 _); clear hr8 hC8 hroom8 hi08 hsz8 hc8; have KY8 := aM_ hy8; have KA8 := aM_ hA8; clear hy8 hA8; have KL8 := aM_ (show 1 ≤ t384.length from by omega); replace q8 := eq_true q8)))
  go_loopg [5, 22] k (fun kq v5 v22 w' => ∃ (x5_1 : List Int) (x22_1 : Int) (x3840_1 : Int) (x3841_1 : Int) (x3842_1 : Int) (x3843_1 : Int) (x3844_1 : Int), v22 = .int .i64 x22_1 ∧ Aside0 (impl_InsRead.l0 kq a0 t384 x5_1 y390 (y390.length : Int) x22_1 = some (r1, r2, r3, r4, r5, r6)) ∧ Aside0 (kq ≤ k) ∧ Aside0 (Kd.R Kd.string 9 w' w.heap.size (fun _ => True) (.slice Ao9 t384.length co9) t384) ∧ Aside0 (Kd.R (Kd.int .i64) 3 w' w.heap.size (fun _ => True) v5 x5_1) ∧ Aside0 (w'.heap[gb383]? = some (.cells #[.int .i64 x3840_1, .int .i64 x3841_1, .int .i64 x3842_1, .int .i64 x3843_1, .int .i64 x3844_1] 32 (0, 0))) ∧ Aside0 (Below w.heap.size w w'))
  case atStart => exact ⟨(y387), (0), (0), (0), (0), (0), (0), (by first | rfl | (simp; done) | (simp [*]; done)), H', ⟨Nat.le_refl _⟩, ⟨by (with_reducible repeat (first | apply rA_ | apply rN_ | apply rD_)); exact HO386.out⟩, ⟨by (with_reducible repeat (first | apply rA_ | apply rN_ | apply rD_)); exact HO389.out⟩, ⟨rW_ BK383.out⟩, ⟨gW_ HB.out⟩⟩
  case round =>
   clear H'
   try clear c1
   try clear p2
   try clear c3
   try clear c3b0
   try clear c3b1
   try clear c5
   try clear c8
   try clear q8
   try clear q8
   obtain ⟨x5_1, x22_1, x3840_1, x3841_1, x3842_1, x3843_1, x3844_1, rfl, HA, HK1, HO_4, HO_5, BK383, HB⟩ := hrel
   cases gk with
   | zero => exact absurd HA.out (by simp [impl_InsRead.l0])
   | succ k1 =>
    have H := HA.out
    clear HA
    simp only [impl_InsRead.l0] at H
    by_cases c10 : x22_1 < (y390.length : Int)
    ·rw [if_pos c10] at H
     have c10b0 : decide (x22_1 < (y390.length : Int)) = true := decide_eq_true c10
     clear c10
     by_cases c11 : 0 ≤ x22_1
     ·rw [if_pos c11] at H
      have c11b0 : decide (0 ≤ x22_1) = true := decide_eq_true c11
      clear c11
      by_cases c12 : x22_1 < (y390.length : Int)
      ·rw [if_pos c12] at H
       have c12b0 : decide (x22_1 < (y390.length : Int)) = true := decide_eq_true c12
       clear c12
       replace H := Option.bind_eq_some_iff.mp H
       obtain ⟨⟨t395, t396⟩, A130, H⟩ := H
       replace H : (if t396.isNone = true then (if x5_1.length < 17592186044416 then (impl_InsRead.l0 k1 a0 t384 (x5_1 ++ [t395]) y390 (y390.length : Int) (wrap64 (x22_1 + 1))) else (none)) else (some (0, 0, 0, 0, 0, false))) = some (r1, r2, r3, r4, r5, r6) := H
       have A13 := aM_ A130
       clear A130
       rcases t396 with _ | q397
       ·have H1 : (if x5_1.length < 17592186044416 then (impl_InsRead.l0 k1 a0 t384 (x5_1 ++ [t395]) y390 (y390.length : Int) (wrap64 (x22_1 + 1))) else (none)) = some (r1, r2, r3, r4, r5, r6) := by rw [if_pos (show (none : Option Int).isNone = true by rfl)] at H; exact H
        clear H
        have H := H1
        clear H1
        try simp only [errW_none, errW_some]
        by_cases c14 : x5_1.length < 17592186044416
        ·rw [if_pos c14] at H
         have LMc14 := aM_ c14
         clear c14
         obtain ⟨y398, hy398⟩ : ∃ y_ : List Int, y_ = (x5_1 ++ [t395]) := ⟨_, rfl⟩
         replace H : (impl_InsRead.l0 k1 a0 t384 y398 y390 (y390.length : Int) (wrap64 (x22_1 + 1))) = some (r1, r2, r3, r4, r5, r6) := by first | (rw [hy398]; with_reducible exact H) | (have H2_ := (Option.bind_some _ _).symm.trans H; rw [hy398]; with_reducible exact H2_) | (have H2_ := (Option.bind_some _ _).symm.trans H; with_reducible exact H2_) | with_reducible exact H | (rw [hy398]; exact H) | exact H
         have Ny398 := aM_ hy398
         clear hy398
         have H' := aM_ H
         clear H
         have p394 : 0 ≤ (x22_1 : Int) := of_decide_eq_true (by first | (with_reducible assumption) | assumption)
         have q394 : x22_1 < (y390.length : Int) := of_decide_eq_true (by first | (with_reducible assumption) | assumption)
         have HR393 := aM_ (by have hC_ := (Kd.R_reads' HO_4.out).2.2; have hq_ := (Kd.R_reads' HO_4.out).2.1; have hy_ := KY8.out; have hr_ := Kd.C_drop (m := (1 : Int).toNat) (c := co9) hC_ (by omega) hq_; rw [show (t384).drop (1 : Int).toNat = y390 from Ny390.out.symm] at hr_; exact (show Kd.C Kd.string _ A8 y390.length y390 from (by rw [KA8.out]; exact hr_)))
         obtain ⟨ad394, e394, hx394_0⟩ := Kd.at_string HR393.out x22_1 p394 q394
         cases e394
         replace p394 := eq_true p394
         replace q394 := eq_true q394
         go_wp2_with (first | (go_at_call 102; (with_reducible refine (strconv_Atoi_102.calls (rdOf ByteArray.empty y390 x22_1) t395 none _ A13.out ?sT).mono ?_); (case sT => first | with_reducible exact hT | exact TabT.Laid.below hT (by repeat (first | (with_reducible first | exact HB.out | apply hA_ | apply hN_ | apply hD_ | refine below_set ?_ GE383.out | refine below_set ?_ GE415.out) | exact HB.out))); rintro e w15 ⟨ev_, rfl, he_, hb⟩; obtain rfl : ev_ = .nilIface := (by unfold TabT.ErrIs at he_; rw [if_pos (show (none : Option Int).isNone = true from rfl)] at he_; exact he_); have n0 := aM_ (bR_ HO_4.out hb); have n1 := aM_ (bR_ HO_5.out hb); have n2 := aM_ (nB_ BK383.out hb); have n3 := aM_ (sT_ HB.out hb); clear HO_4; clear HO_5; clear BK383; clear HB; have HO_4 := n0; have HO_5 := n1; have BK383 := n2; have HB := n3; clear n0 n1 n2 n3; (try simp only [errW_none, errW_some])) | ((with_reducible refine gate_builtin (b := .append) (xs := #[.tmp 34, .tmp 36]) rfl ?_); at_builtin; refine Kd.R_append (Kd.int .i64) (w0 := w) w.heap.size rfl (.tmp 34) (.tmp 36) 35 3 (.int .i64 0) 8 rfl Tryd.underlying35 info3 rfl (by decide) (by omega) u5 x5_1 t395 [.int .i64 t395] (fun _ => True) (fun _ => False) rfl rfl ?aP (fun _ hk => hk.elim) ?aF ?aO ?aB ?aS ?aL ?_; (case aP => exact rfl); (case aB => exact (by repeat (first | (with_reducible first | exact HB.out | apply hA_ | apply hN_ | apply hD_ | refine below_set ?_ GE383.out) | exact HB.out))); (case aF => exact (fun _ _ => trivial)); (case aO => exact (by (with_reducible repeat (first | apply rA_ | apply rN_ | apply rD_)); exact HO_5.out)); (case aS => exact (below_size (by repeat (first | (with_reducible first | exact HB.out | apply hA_ | apply hN_ | apply hD_ | refine below_set ?_ GE383.out) | exact HB.out)))); (case aL => have := LMc14.out; omega); intro v399 w16 ho hb hg hat; rw [← Ny398.out] at ho; have n0 := aM_ (Kd.R_over' (by (with_reducible repeat (first | apply rA_ | apply rN_ | apply rD_)); exact HO_4.out) (Kd.R_typed (by (with_reducible repeat (first | apply rA_ | apply rN_ | apply rD_)); exact HO_5.out)) (by decide) hg); have n1 := aM_ (blk_grown (g := gb383) (o := .cells #[.int .i64 x3840_1, .int .i64 x3841_1, .int .i64 x3842_1, .int .i64 x3843_1, .int .i64 x3844_1] 32 (0, 0)) (by (with_reducible repeat (first | refine bN_ ?_ _ | refine bD_ ?_ | refine bA_ ?_ _)); exact BK383.out) hg (Kd.R_ne HO_5.out BK383.out (by decide))); have n2 := aM_ (hb); have n3 := aM_ (ho); clear HO_4; clear BK383; clear HB; clear HO_5; have HO_4 := n0; have BK383 := n1; have HB := n2; have HO400 := n3; clear n0 n1 n2 n3; clear ho hb hg hat))
         repeat (go_quiet (first | (go_at_call 102; (with_reducible refine (strconv_Atoi_102.calls (rdOf ByteArray.empty y390 x22_1) t395 none _ A13.out ?sT).mono ?_); (case sT => first | with_reducible exact hT | exact TabT.Laid.below hT (by repeat (first | (with_reducible first | exact HB.out | apply hA_ | apply hN_ | apply hD_ | refine below_set ?_ GE383.out | refine below_set ?_ GE415.out) | exact HB.out))); rintro e w15 ⟨ev_, rfl, he_, hb⟩; obtain rfl : ev_ = .nilIface := (by unfold TabT.ErrIs at he_; rw [if_pos (show (none : Option Int).isNone = true from rfl)] at he_; exact he_); have n0 := aM_ (bR_ HO_4.out hb); have n1 := aM_ (bR_ HO_5.out hb); have n2 := aM_ (nB_ BK383.out hb); have n3 := aM_ (sT_ HB.out hb); clear HO_4; clear HO_5; clear BK383; clear HB; have HO_4 := n0; have HO_5 := n1; have BK383 := n2; have HB := n3; clear n0 n1 n2 n3; (try simp only [errW_none, errW_some])) | ((with_reducible refine gate_builtin (b := .append) (xs := #[.tmp 34, .tmp 36]) rfl ?_); at_builtin; refine Kd.R_append (Kd.int .i64) (w0 := w) w.heap.size rfl (.tmp 34) (.tmp 36) 35 3 (.int .i64 0) 8 rfl Tryd.underlying35 info3 rfl (by decide) (by omega) u5 x5_1 t395 [.int .i64 t395] (fun _ => True) (fun _ => False) rfl rfl ?aP (fun _ hk => hk.elim) ?aF ?aO ?aB ?aS ?aL ?_; (case aP => exact rfl); (case aB => exact (by repeat (first | (with_reducible first | exact HB.out | apply hA_ | apply hN_ | apply hD_ | refine below_set ?_ GE383.out) | exact HB.out))); (case aF => exact (fun _ _ => trivial)); (case aO => exact (by (with_reducible repeat (first | apply rA_ | apply rN_ | apply rD_)); exact HO_5.out)); (case aS => exact (below_size (by repeat (first | (with_reducible first | exact HB.out | apply hA_ | apply hN_ | apply hD_ | refine below_set ?_ GE383.out) | exact HB.out)))); (case aL => have := LMc14.out; omega); intro v399 w16 ho hb hg hat; rw [← Ny398.out] at ho; have n0 := aM_ (Kd.R_over' (by (with_reducible repeat (first | apply rA_ | apply rN_ | apply rD_)); exact HO_4.out) (Kd.R_typed (by (with_reducible repeat (first | apply rA_ | apply rN_ | apply rD_)); exact HO_5.out)) (by decide) hg); have n1 := aM_ (blk_grown (g := gb383) (o := .cells #[.int .i64 x3840_1, .int .i64 x3841_1, .int .i64 x3842_1, .int .i64 x3843_1, .int .i64 x3844_1] 32 (0, 0)) (by (with_reducible repeat (first | refine bN_ ?_ _ | refine bD_ ?_ | refine bA_ ?_ _)); exact BK383.out) hg (Kd.R_ne HO_5.out BK383.out (by decide))); have n2 := aM_ (hb); have n3 := aM_ (ho); clear HO_4; clear BK383; clear HB; clear HO_5; have HO_4 := n0; have BK383 := n1; have HB := n2; have HO400 := n3; clear n0 n1 n2 n3; clear ho hb hg hat)); try go_wp2_with (first | (go_at_call 102; (with_reducible refine (strconv_Atoi_102.calls (rdOf ByteArray.empty y390 x22_1) t395 none _ A13.out ?sT).mono ?_); (case sT => first | with_reducible exact hT | exact TabT.Laid.below hT (by repeat (first | (with_reducible first | exact HB.out | apply hA_ | apply hN_ | apply hD_ | refine below_set ?_ GE383.out | refine below_set ?_ GE415.out) | exact HB.out))); rintro e w15 ⟨ev_, rfl, he_, hb⟩; obtain rfl : ev_ = .nilIface := (by unfold TabT.ErrIs at he_; rw [if_pos (show (none : Option Int).isNone = true from rfl)] at he_; exact he_); have n0 := aM_ (bR_ HO_4.out hb); have n1 := aM_ (bR_ HO_5.out hb); have n2 := aM_ (nB_ BK383.out hb); have n3 := aM_ (sT_ HB.out hb); clear HO_4; clear HO_5; clear BK383; clear HB; have HO_4 := n0; have HO_5 := n1; have BK383 := n2; have HB := n3; clear n0 n1 n2 n3; (try simp only [errW_none, errW_some])) | ((with_reducible refine gate_builtin (b := .append) (xs := #[.tmp 34, .tmp 36]) rfl ?_); at_builtin; refine Kd.R_append (Kd.int .i64) (w0 := w) w.heap.size rfl (.tmp 34) (.tmp 36) 35 3 (.int .i64 0) 8 rfl Tryd.underlying35 info3 rfl (by decide) (by omega) u5 x5_1 t395 [.int .i64 t395] (fun _ => True) (fun _ => False) rfl rfl ?aP (fun _ hk => hk.elim) ?aF ?aO ?aB ?aS ?aL ?_; (case aP => exact rfl); (case aB => exact (by repeat (first | (with_reducible first | exact HB.out | apply hA_ | apply hN_ | apply hD_ | refine below_set ?_ GE383.out) | exact HB.out))); (case aF => exact (fun _ _ => trivial)); (case aO => exact (by (with_reducible repeat (first | apply rA_ | apply rN_ | apply rD_)); exact HO_5.out)); (case aS => exact (below_size (by repeat (first | (with_reducible first | exact HB.out | apply hA_ | apply hN_ | apply hD_ | refine below_set ?_ GE383.out) | exact HB.out)))); (case aL => have := LMc14.out; omega); intro v399 w16 ho hb hg hat; rw [← Ny398.out] at ho; have n0 := aM_ (Kd.R_over' (by (with_reducible repeat (first | apply rA_ | apply rN_ | apply rD_)); exact HO_4.out) (Kd.R_typed (by (with_reducible repeat (first | apply rA_ | apply rN_ | apply rD_)); exact HO_5.out)) (by decide) hg); have n1 := aM_ (blk_grown (g := gb383) (o := .cells #[.int .i64 x3840_1, .int .i64 x3841_1, .int .i64 x3842_1, .int .i64 x3843_1, .int .i64 x3844_1] 32 (0, 0)) (by (with_reducible repeat (first | refine bN_ ?_ _ | refine bD_ ?_ | refine bA_ ?_ _)); exact BK383.out) hg (Kd.R_ne HO_5.out BK383.out (by decide))); have n2 := aM_ (hb); have n3 := aM_ (ho); clear HO_4; clear BK383; clear HB; clear HO_5; have HO_4 := n0; have BK383 := n1; have HB := n2; have HO400 := n3; clear n0 n1 n2 n3; clear ho hb hg hat)))
         go_roundg k1
         case measure => have := HK1.out; omega
         case rel => exact ⟨(y398), (wrap64 (x22_1 + 1)), (x3840_1), (x3841_1), (x3842_1), (x3843_1), (x3844_1), (by first | rfl | (simp; done) | (simp [*]; done)), H', ⟨by have := HK1.out; omega⟩, ⟨by (with_reducible repeat (first | apply rA_ | apply rN_ | apply rD_)); exact HO_4.out⟩, ⟨by (with_reducible repeat (first | apply rA_ | apply rN_ | apply rD_)); exact HO400.out⟩, ⟨rW_ BK383.out⟩, ⟨gW_ HB.out⟩⟩
        ·rw [if_neg c14] at H
         exact absurd H (by simp)
       ·have H1 : (some (0, 0, 0, 0, 0, false)) = some (r1, r2, r3, r4, r5, r6) := by rw [if_neg (show ¬ (some q397).isNone = true by simp)] at H; exact H
        clear H
        have H := H1
        clear H1
        try simp only [errW_none, errW_some]
        simp only [Option.some.injEq, Prod.mk.injEq] at H
        obtain ⟨rfl, rfl, rfl, rfl, rfl, rfl⟩ := H
        have p394 : 0 ≤ (x22_1 : Int) := of_decide_eq_true (by first | (with_reducible assumption) | assumption)
        have q394 : x22_1 < (y390.length : Int) := of_decide_eq_true (by first | (with_reducible assumption) | assumption)
        have HR393 := aM_ (by have hC_ := (Kd.R_reads' HO_4.out).2.2; have hq_ := (Kd.R_reads' HO_4.out).2.1; have hy_ := KY8.out; have hr_ := Kd.C_drop (m := (1 : Int).toNat) (c := co9) hC_ (by omega) hq_; rw [show (t384).drop (1 : Int).toNat = y390 from Ny390.out.symm] at hr_; exact (show Kd.C Kd.string _ A8 y390.length y390 from (by rw [KA8.out]; exact hr_)))
        obtain ⟨ad394, e394, hx394_0⟩ := Kd.at_string HR393.out x22_1 p394 q394
        cases e394
        replace p394 := eq_true p394
        replace q394 := eq_true q394
        go_wp2_with (first | (go_at_call 102; (with_reducible refine (strconv_Atoi_102.calls (rdOf ByteArray.empty y390 x22_1) t395 (some q397) _ A13.out ?sT).mono ?_); (case sT => first | with_reducible exact hT | exact TabT.Laid.below hT (by repeat (first | (with_reducible first | exact HB.out | apply hA_ | apply hN_ | apply hD_ | refine below_set ?_ GE383.out | refine below_set ?_ GE415.out) | exact HB.out))); rintro e w17 ⟨ev_, rfl, he_, hb⟩; obtain ⟨te_, pe_, rfl⟩ : ∃ te_ pe_, ev_ = .iface te_ pe_ := (by unfold TabT.ErrIs at he_; rw [if_neg (show ¬ (some q397 : Option Int).isNone = true by simp)] at he_; exact he_); have n0 := aM_ (bR_ HO_4.out hb); have n1 := aM_ (bR_ HO_5.out hb); have n2 := aM_ (nB_ BK383.out hb); have n3 := aM_ (sT_ HB.out hb); clear HO_4; clear HO_5; clear BK383; clear HB; have HO_4 := n0; have HO_5 := n1; have BK383 := n2; have HB := n3; clear n0 n1 n2 n3; (try simp only [errW_none, errW_some]); obtain ⟨hcz18_0, hcz18_1, hcz18_2, hcz18_3, hcz18_4, hfz18_0, hfz18_1, hfz18_2, hfz18_3, hfz18_4⟩ := bR5_ BK383.out))
        repeat (go_quiet (first | (go_at_call 102; (with_reducible refine (strconv_Atoi_102.calls (rdOf ByteArray.empty y390 x22_1) t395 (some q397) _ A13.out ?sT).mono ?_); (case sT => first | with_reducible exact hT | exact TabT.Laid.below hT (by repeat (first | (with_reducible first | exact HB.out | apply hA_ | apply hN_ | apply hD_ | refine below_set ?_ GE383.out | refine below_set ?_ GE415.out) | exact HB.out))); rintro e w17 ⟨ev_, rfl, he_, hb⟩; obtain ⟨te_, pe_, rfl⟩ : ∃ te_ pe_, ev_ = .iface te_ pe_ := (by unfold TabT.ErrIs at he_; rw [if_neg (show ¬ (some q397 : Option Int).isNone = true by simp)] at he_; exact he_); have n0 := aM_ (bR_ HO_4.out hb); have n1 := aM_ (bR_ HO_5.out hb); have n2 := aM_ (nB_ BK383.out hb); have n3 := aM_ (sT_ HB.out hb); clear HO_4; clear HO_5; clear BK383; clear HB; have HO_4 := n0; have HO_5 := n1; have BK383 := n2; have HB := n3; clear n0 n1 n2 n3; (try simp only [errW_none, errW_some]); obtain ⟨hcz18_0, hcz18_1, hcz18_2, hcz18_3, hcz18_4, hfz18_0, hfz18_1, hfz18_2, hfz18_3, hfz18_4⟩ := bR5_ BK383.out)); try go_wp2_with (first | (go_at_call 102; (with_reducible refine (strconv_Atoi_102.calls (rdOf ByteArray.empty y390 x22_1) t395 (some q397) _ A13.out ?sT).mono ?_); (case sT => first | with_reducible exact hT | exact TabT.Laid.below hT (by repeat (first | (with_reducible first | exact HB.out | apply hA_ | apply hN_ | apply hD_ | refine below_set ?_ GE383.out | refine below_set ?_ GE415.out) | exact HB.out))); rintro e w17 ⟨ev_, rfl, he_, hb⟩; obtain ⟨te_, pe_, rfl⟩ : ∃ te_ pe_, ev_ = .iface te_ pe_ := (by unfold TabT.ErrIs at he_; rw [if_neg (show ¬ (some q397 : Option Int).isNone = true by simp)] at he_; exact he_); have n0 := aM_ (bR_ HO_4.out hb); have n1 := aM_ (bR_ HO_5.out hb); have n2 := aM_ (nB_ BK383.out hb); have n3 := aM_ (sT_ HB.out hb); clear HO_4; clear HO_5; clear BK383; clear HB; have HO_4 := n0; have HO_5 := n1; have BK383 := n2; have HB := n3; clear n0 n1 n2 n3; (try simp only [errW_none, errW_some]); obtain ⟨hcz18_0, hcz18_1, hcz18_2, hcz18_3, hcz18_4, hfz18_0, hfz18_1, hfz18_2, hfz18_3, hfz18_4⟩ := bR5_ BK383.out)))
        refine bodyPost_ret (results_ct rfl _ _ gb383 32 #[.int .i64 0, .int .i64 0, .int .i64 0, .int .i64 0, .int .i64 0] (0, 0) _ rfl (by (with_reducible repeat (first | refine bN_ ?_ _ | refine bD_ ?_ | refine bA_ ?_ _)); refine blk_put (cs := #[.int .i64 0, .int .i64 0, .int .i64 0, .int .i64 0, .int .i64 x3844_1]) ?_ 4 _ rfl; (with_reducible repeat (first | refine bN_ ?_ _ | refine bD_ ?_ | refine bA_ ?_ _)); refine blk_put (cs := #[.int .i64 0, .int .i64 0, .int .i64 0, .int .i64 x3843_1, .int .i64 x3844_1]) ?_ 3 _ rfl; (with_reducible repeat (first | refine bN_ ?_ _ | refine bD_ ?_ | refine bA_ ?_ _)); refine blk_put (cs := #[.int .i64 0, .int .i64 0, .int .i64 x3842_1, .int .i64 x3843_1, .int .i64 x3844_1]) ?_ 2 _ rfl; (with_reducible repeat (first | refine bN_ ?_ _ | refine bD_ ?_ | refine bA_ ?_ _)); refine blk_put (cs := #[.int .i64 0, .int .i64 x3841_1, .int .i64 x3842_1, .int .i64 x3843_1, .int .i64 x3844_1]) ?_ 1 _ rfl; (with_reducible repeat (first | refine bN_ ?_ _ | refine bD_ ?_ | refine bA_ ?_ _)); refine blk_put (cs := #[.int .i64 x3840_1, .int .i64 x3841_1, .int .i64 x3842_1, .int .i64 x3843_1, .int .i64 x3844_1]) ?_ 0 _ rfl; (with_reducible repeat (first | refine bN_ ?_ _ | refine bD_ ?_ | refine bA_ ?_ _)); exact BK383.out) Tryd.underlying32 rfl (by kernel_rfl)) rfl ?_
        exact fI_ HB.out
      ·rw [if_neg c12] at H
       exact absurd H (by simp)
     ·rw [if_neg c11] at H
      exact absurd H (by simp)
    ·rw [if_neg c10] at H
     have c10b0 : decide (x22_1 < (y390.length : Int)) = false := decide_eq_false c10
     clear c10
     replace H := Option.bind_eq_some_iff.mp H
     obtain ⟨t401, A190, H⟩ := H
     replace H : ((some (([0, 0, 0] : List Int) : List Int)).bind fun y404 => (if t401.length + y404.length < 17592186044416 then ((some (t401 ++ y404 : List Int)).bind fun y407 => (if 0 < (y407.length : Int) then (if 1 < (y407.length : Int) then (if 2 < (y407.length : Int) then (if 0 < (t384.length : Int) then ((impl_opOf.f k1 (rdOf ByteArray.empty t384 0)).bind fun t414 => (if t414 = 1 then (impl_InsRead.j4 k1 a0 t414 (rd y407 0) 0 0 (rd y407 1)) else (if t414 = 2 then (impl_InsRead.j1 k1 a0 (rd y407 0) (rd y407 1) (rd y407 2) t414 (t414 == 2) t414 0 0 0 0) else (if t414 = 3 then (impl_InsRead.j1 k1 a0 (rd y407 0) (rd y407 1) (rd y407 2) t414 (t414 == 3) t414 0 0 0 0) else (impl_InsRead.j1 k1 a0 (rd y407 0) (rd y407 1) (rd y407 2) t414 (t414 == 4) t414 0 0 0 0))))) else (none)) else (none)) else (none)) else (none))) else (none))) = some (r1, r2, r3, r4, r5, r6) := H
     have A19 := aM_ A190
     clear A190
     obtain ⟨y404, hy404⟩ : ∃ y_ : List Int, y_ = (([0, 0, 0] : List Int)) := ⟨_, rfl⟩
     replace H : (if t401.length + y404.length < 17592186044416 then ((some (t401 ++ y404 : List Int)).bind fun y407 => (if 0 < (y407.length : Int) then (if 1 < (y407.length : Int) then (if 2 < (y407.length : Int) then (if 0 < (t384.length : Int) then ((impl_opOf.f k1 (rdOf ByteArray.empty t384 0)).bind fun t414 => (if t414 = 1 then (impl_InsRead.j4 k1 a0 t414 (rd y407 0) 0 0 (rd y407 1)) else (if t414 = 2 then (impl_InsRead.j1 k1 a0 (rd y407 0) (rd y407 1) (rd y407 2) t414 (t414 == 2) t414 0 0 0 0) else (if t414 = 3 then (impl_InsRead.j1 k1 a0 (rd y407 0) (rd y407 1) (rd y407 2) t414 (t414 == 3) t414 0 0 0 0) else (impl_InsRead.j1 k1 a0 (rd y407 0) (rd y407 1) (rd y407 2) t414 (t414 == 4) t414 0 0 0 0))))) else (none)) else (none)) else (none)) else (none))) else (none)) = some (r1, r2, r3, r4, r5, r6) := by first | (rw [hy404]; with_reducible exact H) | (have H2_ := (Option.bind_some _ _).symm.trans H; rw [hy404]; with_reducible exact H2_) | (have H2_ := (Option.bind_some _ _).symm.trans H; with_reducible exact H2_) | with_reducible exact H | (rw [hy404]; exact H) | exact H
     have Ny404 := aM_ hy404
     clear hy404
     by_cases c20 : t401.length + y404.length < 17592186044416
     ·rw [if_pos c20] at H
      have LMc20 := aM_ c20
      clear c20
      obtain ⟨y407, hy407⟩ : ∃ y_ : List Int, y_ = (t401 ++ y404) := ⟨_, rfl⟩
      replace H : (if 0 < (y407.length : Int) then (if 1 < (y407.length : Int) then (if 2 < (y407.length : Int) then (if 0 < (t384.length : Int) then ((impl_opOf.f k1 (rdOf ByteArray.empty t384 0)).bind fun t414 => (if t414 = 1 then (impl_InsRead.j4 k1 a0 t414 (rd y407 0) 0 0 (rd y407 1)) else (if t414 = 2 then (impl_InsRead.j1 k1 a0 (rd y407 0) (rd y407 1) (rd y407 2) t414 (t414 == 2) t414 0 0 0 0) else (if t414 = 3 then (impl_InsRead.j1 k1 a0 (rd y407 0) (rd y407 1) (rd y407 2) t414 (t414 == 3) t414 0 0 0 0) else (impl_InsRead.j1 k1 a0 (rd y407 0) (rd y407 1) (rd y407 2) t414 (t414 == 4) t414 0 0 0 0))))) else (none)) else (none)) else (none)) else (none)) = some (r1, r2, r3, r4, r5, r6) := by first | (rw [hy407]; with_reducible exact H) | (have H2_ := (Option.bind_some _ _).symm.trans H; rw [hy407]; with_reducible exact H2_) | (have H2_ := (Option.bind_some _ _).symm.trans H; with_reducible exact H2_) | with_reducible exact H | (rw [hy407]; exact H) | exact H
      have Ny407 := aM_ hy407
      clear hy407
      by_cases c21 : 0 < (y407.length : Int)
      ·rw [if_pos c21] at H
       have c21b0 : decide (0 < (y407.length : Int)) = true := decide_eq_true c21
       have c21b1 : decide (0 < y407.length) = true := decide_eq_true (by omega)
       clear c21
       by_cases c22 : 1 < (y407.length : Int)
       ·rw [if_pos c22] at H
        have c22b0 : decide (1 < (y407.length : Int)) = true := decide_eq_true c22
        have c22b1 : decide (1 < y407.length) = true := decide_eq_true (by omega)
        clear c22
        by_cases c23 : 2 < (y407.length : Int)
        ·rw [if_pos c23] at H
         have c23b0 : decide (2 < (y407.length : Int)) = true := decide_eq_true c23
         have c23b1 : decide (2 < y407.length) = true := decide_eq_true (by omega)
         clear c23
         by_cases c24 : 0 < (t384.length : Int)
         ·rw [if_pos c24] at H
          have c24b0 : decide (0 < (t384.length : Int)) = true := decide_eq_true c24
          have c24b1 : decide (0 < t384.length) = true := decide_eq_true (by omega)
          clear c24
          replace H := Option.bind_eq_some_iff.mp H
          obtain ⟨t414, A250, H⟩ := H
          replace H : (if t414 = 1 then (impl_InsRead.j4 k1 a0 t414 (rd y407 0) 0 0 (rd y407 1)) else (if t414 = 2 then (impl_InsRead.j1 k1 a0 (rd y407 0) (rd y407 1) (rd y407 2) t414 (t414 == 2) t414 0 0 0 0) else (if t414 = 3 then (impl_InsRead.j1 k1 a0 (rd y407 0) (rd y407 1) (rd y407 2) t414 (t414 == 3) t414 0 0 0 0) else (impl_InsRead.j1 k1 a0 (rd y407 0) (rd y407 1) (rd y407 2) t414 (t414 == 4) t414 0 0 0 0)))) = some (r1, r2, r3, r4, r5, r6) := H
          have A25 := aM_ A250
          clear A250
          have HC26 := aM_ H
          clear H
          obtain ⟨Ao27, co27, eo27⟩ := Kd.R_slice HO_5.out
          subst eo27
          go_upto_block 2 with (first | (go_at_call 103; (with_reducible refine (impl_copyInts.calls _ _ x5_1 t401 _ ?side1 ?side2 A19.out).mono ?_); (case side1 => exact cS_ (Kd.R_reads' HO_5.out).2.2); (case side2 => exact (Kd.R_reads' HO_5.out).2.1); rintro e w28 ⟨v402, rfl, ho0, hb⟩; have n0 := aM_ (bR_ HO_4.out hb); have n1 := aM_ (Kd.R_elder' (by (with_reducible repeat (first | apply rA_ | apply rN_ | apply rD_)); exact HO_5.out) (Kd.R_base ho0) hb); have n2 := aM_ (Kd.R_lower (Kd.R_new' ho0 (Kd.R_lt (by (with_reducible repeat (first | apply rA_ | apply rN_ | apply rD_)); exact HO_5.out))) (below_size (by repeat (first | (with_reducible first | exact HB.out | apply hA_ | apply hN_ | apply hD_ | refine below_set ?_ GE383.out) | exact HB.out)))); have n3 := aM_ (nB_ BK383.out hb); have n4 := aM_ (sT_ HB.out hb); clear HO_4; clear HO_5; clear BK383; clear HB; have HO_4 := n0; have HO_5 := n1; have HO403 := n2; have BK383 := n3; have HB := n4; clear n0 n1 n2 n3 n4; (try clear ho0)) | ((with_reducible refine gate_dst (N := 41) rfl ?_); refine Kd.R_lit (Kd.int .i64) _ 3 ?hg (N := 41) ?hd (xs := ([0, 0, 0] : List Int)) (inner := [.int .i64 0, .int .i64 0, .int .i64 0]) (ok := fun _ => True) (okp := fun _ => True) ?hr ?hp (fun _ hk => hk) trivial (Below.refl _ _) (Nat.le_refl _) (by simp) ?_; (case hd => rfl); (case hg => rfl); (case hr => first | (go_simp; done) | (go_simp; rfl)); (case hp => exact (Reps.one (show Kd.M (Kd.int .i64) _ _ _ 0 [.int .i64 0] from rfl) (Reps.one (show Kd.M (Kd.int .i64) _ _ _ 0 [.int .i64 0] from rfl) (Reps.one (show Kd.M (Kd.int .i64) _ _ _ 0 [.int .i64 0] from rfl) (Reps.none _ _))))); intro v405 w29 ho30 hb hg_ hnew_; clear hg_ hnew_; (first | rw [← Ny404.out] at ho30 | (simp only [Int.reduceToNat] at ho30; rw [← Ny404.out] at ho30)); have n0 := aM_ (bR_ HO_4.out hb); have n1 := aM_ (Kd.R_elder' (by (with_reducible repeat (first | apply rA_ | apply rN_ | apply rD_)); exact HO_5.out) (Kd.R_base ho30) hb); have n2 := aM_ (Kd.R_elder' (by (with_reducible repeat (first | apply rA_ | apply rN_ | apply rD_)); exact HO403.out) (Kd.R_base ho30) hb); have n3 := aM_ (Kd.R_lower (Kd.R_new' (Kd.R_new' ho30 (Kd.R_lt (by (with_reducible repeat (first | apply rA_ | apply rN_ | apply rD_)); exact HO_5.out))) (Kd.R_lt (by (with_reducible repeat (first | apply rA_ | apply rN_ | apply rD_)); exact HO403.out))) (below_size (by repeat (first | (with_reducible first | exact HB.out | apply hA_ | apply hN_ | apply hD_ | refine below_set ?_ GE383.out) | exact HB.out)))); have n4 := aM_ (nB_ BK383.out hb); have n5 := aM_ (sT_ HB.out hb); clear HO_4; clear HO_5; clear HO403; clear BK383; clear HB; have HO_4 := n0; have HO_5 := n1; have HO403 := n2; have HO406 := n3; have BK383 := n4; have HB := n5; clear n0 n1 n2 n3 n4 n5; clear hb ho30; obtain ⟨Ao32, co32, eo32⟩ := Kd.R_slice HO406.out; subst eo32) | ((with_reducible refine gate_builtin (b := .append) (xs := #[.tmp 40, .tmp 41]) rfl ?_); at_builtin; refine Kd.R_append_rows (Kd.int .i64) (w0 := w) w.heap.size rfl (.tmp 40) (.tmp 41) 35 3 (.int .i64 0) 8 rfl Tryd.underlying35 info3 rfl (by decide) (by omega) v402 t401 y404 _ _ _ (fun k_ => some k_ ≠ (.slice Ao27 x5_1.length co27 : Value).ownBlock ∧ some k_ ≠ (.slice Ao32 y404.length co32 : Value).ownBlock) (fun _ => False) rfl rfl ?aO ?aR (fun _ _ h => h) (fun _ h => h.elim) ?aF ?aB ?aS ?aL ?_; (case aR => repeat (first | exact (Kd.R_reads' HO406.out).2.2 | (with_reducible refine Kd.C_alloc ?_ _) | (with_reducible refine Kd.C_drewN ?_ _) | (with_reducible refine Kd.C_drew ?_))); (case aB => exact (by repeat (first | (with_reducible first | exact HB.out | apply hA_ | apply hN_ | apply hD_ | refine below_set ?_ GE383.out) | exact HB.out))); (case aF => exact (fun k_ hk => ⟨Kd.fresh' (Kd.R_lt (by (with_reducible repeat (first | apply rA_ | apply rN_ | apply rD_)); exact HO_5.out)) k_ hk, Kd.fresh' (Kd.R_lt (by (with_reducible repeat (first | apply rA_ | apply rN_ | apply rD_)); exact HO406.out)) k_ hk⟩)); (case aO => exact (by (with_reducible repeat (first | apply rA_ | apply rN_ | apply rD_)); exact Kd.R_mono HO403.out (fun _ hk => ⟨hk.1.2, hk.2⟩))); (case aS => exact (below_size (by repeat (first | (with_reducible first | exact HB.out | apply hA_ | apply hN_ | apply hD_ | refine below_set ?_ GE383.out) | exact HB.out)))); (case aL => have := LMc20.out; omega); intro v408 w31 ho hb hg hat; rw [← Ny407.out] at ho; have n0 := aM_ (Kd.R_over' (by (with_reducible repeat (first | apply rA_ | apply rN_ | apply rD_)); exact HO_4.out) (Kd.R_typed (by (with_reducible repeat (first | apply rA_ | apply rN_ | apply rD_)); exact HO403.out)) (by decide) hg); have n1 := aM_ (Kd.R_after (ok := (fun k_ => some k_ ≠ (.slice Ao32 y404.length co32 : Value).ownBlock)) (by (with_reducible repeat (first | apply rA_ | apply rN_ | apply rD_)); exact Kd.R_mono HO_5.out (fun _ hk => ⟨hk.2, hk.1.2⟩)) hg hat); have n2 := aM_ (blk_grown (g := gb383) (o := .cells #[.int .i64 x3840_1, .int .i64 x3841_1, .int .i64 x3842_1, .int .i64 x3843_1, .int .i64 x3844_1] 32 (0, 0)) (by (with_reducible repeat (first | refine bN_ ?_ _ | refine bD_ ?_ | refine bA_ ?_ _)); exact BK383.out) hg (Kd.R_ne HO403.out BK383.out (by decide))); have n3 := aM_ (Kd.R_after (ok := (fun k_ => some k_ ≠ (.slice Ao27 x5_1.length co27 : Value).ownBlock)) (by (with_reducible repeat (first | apply rA_ | apply rN_ | apply rD_)); exact Kd.R_mono HO406.out (fun _ hk => ⟨hk.1.2, hk.2⟩)) hg hat); have n4 := aM_ (hb); have n5 := aM_ (ho); clear HO_4; clear HO_5; clear BK383; clear HO406; clear HB; clear HO403; have HO_4 := n0; have HO_5 := n1; have BK383 := n2; have HO406 := n3; have HB := n4; have HO409 := n5; clear n0 n1 n2 n3 n4 n5; clear ho hb hg hat; obtain ⟨Ao33, co33, eo33⟩ := Kd.R_slice HO409.out; subst eo33; have p410 : 0 ≤ (0 : Int) := (by omega); have q410 : 0 < (y407.length : Int) := of_decide_eq_true (by first | (with_reducible assumption) | assumption); obtain ⟨ad410, e410, hx410_0⟩ := Kd.at_int (Kd.R_reads' HO409.out).2.2 0 p410 q410; cases e410; have qi410 : (0 < y407.length) = True := eq_true (by omega); (try rw [show ((0 : Int)).toNat = 0 from rfl] at hx410_0); (try rw [Addr.add_zero'] at hx410_0); replace p410 := eq_true p410; replace q410 := eq_true q410; have p411 : 0 ≤ (1 : Int) := (by omega); have q411 : 1 < (y407.length : Int) := of_decide_eq_true (by first | (with_reducible assumption) | assumption); obtain ⟨ad411, e411, hx411_0⟩ := Kd.at_int (Kd.R_reads' HO409.out).2.2 1 p411 q411; obtain rfl : ad410 = ad411 := (by injection e411); (try simp only [show (1 : Int).toNat = 1 from rfl, Nat.reduceMul, Nat.reduceEqDiff, Go.Addr.add, ↓reduceIte] at hx411_0); have qi411 : (1 < y407.length) = True := eq_true (by omega); (try rw [show ((1 : Int)).toNat = 1 from rfl] at hx411_0); replace p411 := eq_true p411; replace q411 := eq_true q411; have p412 : 0 ≤ (2 : Int) := (by omega); have q412 : 2 < (y407.length : Int) := of_decide_eq_true (by first | (with_reducible assumption) | assumption); obtain ⟨ad412, e412, hx412_0⟩ := Kd.at_int (Kd.R_reads' HO409.out).2.2 2 p412 q412; obtain rfl : ad410 = ad412 := (by injection e412); (try simp only [show (2 : Int).toNat = 2 from rfl, Nat.reduceMul, Nat.reduceEqDiff, Go.Addr.add, ↓reduceIte] at hx412_0); have qi412 : (2 < y407.length) = True := eq_true (by omega); (try rw [show ((2 : Int)).toNat = 2 from rfl] at hx412_0); replace p412 := eq_true p412; replace q412 := eq_true q412; have p413 : 0 ≤ (0 : Int) := (by omega); have q413 : 0 < (t384.length : Int) := of_decide_eq_true (by first | (with_reducible assumption) | assumption); obtain ⟨ad413, e413, hx413_0⟩ := Kd.at_string (Kd.R_reads' HO_4.out).2.2 0 p413 q413; cases e413; have qi413 : (0 < t384.length) = True := eq_true (by omega); (try rw [show ((0 : Int)).toNat = 0 from rfl] at hx413_0); (try rw [Addr.add_zero'] at hx413_0); replace p413 := eq_true p413; replace q413 := eq_true q413) | (go_at_call 104; (with_reducible refine (impl_opOf.calls k1 (rdOf ByteArray.empty t384 0) t414 _ A25.out).mono ?_); rintro e w34 ⟨rfl, hb⟩; have n0 := aM_ (bR_ HO_4.out hb); have n1 := aM_ (bR_ HO_5.out hb); have n2 := aM_ (bR_ HO406.out hb); have n3 := aM_ (bR_ HO409.out hb); have n4 := aM_ (nB_ BK383.out hb); have n5 := aM_ (sT_ HB.out hb); clear HO_4; clear HO_5; clear HO406; clear HO409; clear BK383; clear HB; have HO_4 := n0; have HO_5 := n1; have HO406 := n2; have HO409 := n3; have BK383 := n4; have HB := n5; clear n0 n1 n2 n3 n4 n5) | ((with_reducible refine gate_dst (N := 14) rfl ?_); refine bX_ 14 (cs := #[.int .i64 0, .int .i64 0, .int .i64 0, .int .i64 0, .int .i64 0]) (t := 32) ?_; intro gb415 hg w35 hbox hb; have n0 := aM_ (bR_ HO_4.out hb); have n1 := aM_ (bR_ HO_5.out hb); have n2 := aM_ (bR_ HO406.out hb); have n3 := aM_ (bR_ HO409.out hb); have n4 := aM_ (nB_ BK383.out hb); have n5 := aM_ (sT_ HB.out hb); have n6 := aM_ (hbox); have n7 := aM_ (sZ_ hg HB.out); have n8 := aM_ (sZ_ hg HB.out); have n9 := aM_ (nL_ hg BK383.out); have n10 := aM_ (nG_ hg BK383.out); clear HO_4; clear HO_5; clear HO406; clear HO409; clear BK383; clear HB; have HO_4 := n0; have HO_5 := n1; have HO406 := n2; have HO409 := n3; have BK383 := n4; have HB := n5; have BK415 := n6; have GW415 := n7; have GE415 := n8; have NB383_415 := n9; have NB415_383 := n10; clear n0 n1 n2 n3 n4 n5 n6 n7 n8 n9 n10; clear hb hbox hg; have hnb36 := NB415_383.out; have hnc36 := NB383_415.out; obtain ⟨hcz37_0, hcz37_1, hcz37_2, hcz37_3, hcz37_4, hfz37_0, hfz37_1, hfz37_2, hfz37_3, hfz37_4⟩ := bR5_ BK415.out))
          repeat (go_quiet (first | (go_at_call 103; (with_reducible refine (impl_copyInts.calls _ _ x5_1 t401 _ ?side1 ?side2 A19.out).mono ?_); (case side1 => exact cS_ (Kd.R_reads' HO_5.out).2.2); (case side2 => exact (Kd.R_reads' HO_5.out).2.1); rintro e w28 ⟨v402, rfl, ho0, hb⟩; have n0 := aM_ (bR_ HO_4.out hb); have n1 := aM_ (Kd.R_elder' (by (with_reducible repeat (first | apply rA_ | apply rN_ | apply rD_)); exact HO_5.out) (Kd.R_base ho0) hb); have n2 := aM_ (Kd.R_lower (Kd.R_new' ho0 (Kd.R_lt (by (with_reducible repeat (first | apply rA_ | apply rN_ | apply rD_)); exact HO_5.out))) (below_size (by repeat (first | (with_reducible first | exact HB.out | apply hA_ | apply hN_ | apply hD_ | refine below_set ?_ GE383.out) | exact HB.out)))); have n3 := aM_ (nB_ BK383.out hb); have n4 := aM_ (sT_ HB.out hb); clear HO_4; clear HO_5; clear BK383; clear HB; have HO_4 := n0; have HO_5 := n1; have HO403 := n2; have BK383 := n3; have HB := n4; clear n0 n1 n2 n3 n4; (try clear ho0)) | ((with_reducible refine gate_dst (N := 41) rfl ?_); refine Kd.R_lit (Kd.int .i64) _ 3 ?hg (N := 41) ?hd (xs := ([0, 0, 0] : List Int)) (inner := [.int .i64 0, .int .i64 0, .int .i64 0]) (ok := fun _ => True) (okp := fun _ => True) ?hr ?hp (fun _ hk => hk) trivial (Below.refl _ _) (Nat.le_refl _) (by simp) ?_; (case hd => rfl); (case hg => rfl); (case hr => first | (go_simp; done) | (go_simp; rfl)); (case hp => exact (Reps.one (show Kd.M (Kd.int .i64) _ _ _ 0 [.int .i64 0] from rfl) (Reps.one (show Kd.M (Kd.int .i64) _ _ _ 0 [.int .i64 0] from rfl) (Reps.one (show Kd.M (Kd.int .i64) _ _ _ 0 [.int .i64 0] from rfl) (Reps.none _ _))))); intro v405 w29 ho30 hb hg_ hnew_; clear hg_ hnew_; (first | rw [← Ny404.out] at ho30 | (simp only [Int.reduceToNat] at ho30; rw [← Ny404.out] at ho30)); have n0 := aM_ (bR_ HO_4.out hb); have n1 := aM_ (Kd.R_elder' (by (with_reducible repeat (first | apply rA_ | apply rN_ | apply rD_)); exact HO_5.out) (Kd.R_base ho30) hb); have n2 := aM_ (Kd.R_elder' (by (with_reducible repeat (first | apply rA_ | apply rN_ | apply rD_)); exact HO403.out) (Kd.R_base ho30) hb); have n3 := aM_ (Kd.R_lower (Kd.R_new' (Kd.R_new' ho30 (Kd.R_lt (by (with_reducible repeat (first | apply rA_ | apply rN_ | apply rD_)); exact HO_5.out))) (Kd.R_lt (by (with_reducible repeat (first | apply rA_ | apply rN_ | apply rD_)); exact HO403.out))) (below_size (by repeat (first | (with_reducible first | exact HB.out | apply hA_ | apply hN_ | apply hD_ | refine below_set ?_ GE383.out) | exact HB.out)))); have n4 := aM_ (nB_ BK383.out hb); have n5 := aM_ (sT_ HB.out hb); clear HO_4; clear HO_5; clear HO403; clear BK383; clear HB; have HO_4 := n0; have HO_5 := n1; have HO403 := n2; have HO406 := n3; have BK383 := n4; have HB := n5; clear n0 n1 n2 n3 n4 n5; clear hb ho30; obtain ⟨Ao32, co32, eo32⟩ := Kd.R_slice HO406.out; subst eo32) | ((with_reducible refine gate_builtin (b := .append) (xs := #[.tmp 40, .tmp 41]) rfl ?_); at_builtin; refine Kd.R_append_rows (Kd.int .i64) (w0 := w) w.heap.size rfl (.tmp 40) (.tmp 41) 35 3 (.int .i64 0) 8 rfl Tryd.underlying35 info3 rfl (by decide) (by omega) v402 t401 y404 _ _ _ (fun k_ => some k_ ≠ (.slice Ao27 x5_1.length co27 : Value).ownBlock ∧ some k_ ≠ (.slice Ao32 y404.length co32 : Value).ownBlock) (fun _ => False) rfl rfl ?aO ?aR (fun _ _ h => h) (fun _ h => h.elim) ?aF ?aB ?aS ?aL ?_; (case aR => repeat (first | exact (Kd.R_reads' HO406.out).2.2 | (with_reducible refine Kd.C_alloc ?_ _) | (with_reducible refine Kd.C_drewN ?_ _) | (with_reducible refine Kd.C_drew ?_))); (case aB => exact (by repeat (first | (with_reducible first | exact HB.out | apply hA_ | apply hN_ | apply hD_ | refine below_set ?_ GE383.out) | exact HB.out))); (case aF => exact (fun k_ hk => ⟨Kd.fresh' (Kd.R_lt (by (with_reducible repeat (first | apply rA_ | apply rN_ | apply rD_)); exact HO_5.out)) k_ hk, Kd.fresh' (Kd.R_lt (by (with_reducible repeat (first | apply rA_ | apply rN_ | apply rD_)); exact HO406.out)) k_ hk⟩)); (case aO => exact (by (with_reducible repeat (first | apply rA_ | apply rN_ | apply rD_)); exact Kd.R_mono HO403.out (fun _ hk => ⟨hk.1.2, hk.2⟩))); (case aS => exact (below_size (by repeat (first | (with_reducible first | exact HB.out | apply hA_ | apply hN_ | apply hD_ | refine below_set ?_ GE383.out) | exact HB.out)))); (case aL => have := LMc20.out; omega); intro v408 w31 ho hb hg hat; rw [← Ny407.out] at ho; have n0 := aM_ (Kd.R_over' (by (with_reducible repeat (first | apply rA_ | apply rN_ | apply rD_)); exact HO_4.out) (Kd.R_typed (by (with_reducible repeat (first | apply rA_ | apply rN_ | apply rD_)); exact HO403.out)) (by decide) hg); have n1 := aM_ (Kd.R_after (ok := (fun k_ => some k_ ≠ (.slice Ao32 y404.length co32 : Value).ownBlock)) (by (with_reducible repeat (first | apply rA_ | apply rN_ | apply rD_)); exact Kd.R_mono HO_5.out (fun _ hk => ⟨hk.2, hk.1.2⟩)) hg hat); have n2 := aM_ (blk_grown (g := gb383) (o := .cells #[.int .i64 x3840_1, .int .i64 x3841_1, .int .i64 x3842_1, .int .i64 x3843_1, .int .i64 x3844_1] 32 (0, 0)) (by (with_reducible repeat (first | refine bN_ ?_ _ | refine bD_ ?_ | refine bA_ ?_ _)); exact BK383.out) hg (Kd.R_ne HO403.out BK383.out (by decide))); have n3 := aM_ (Kd.R_after (ok := (fun k_ => some k_ ≠ (.slice Ao27 x5_1.length co27 : Value).ownBlock)) (by (with_reducible repeat (first | apply rA_ | apply rN_ | apply rD_)); exact Kd.R_mono HO406.out (fun _ hk => ⟨hk.1.2, hk.2⟩)) hg hat); have n4 := aM_ (hb); have n5 := aM_ (ho); clear HO_4; clear HO_5; clear BK383; clear HO406; clear HB; clear HO403; have HO_4 := n0; have HO_5 := n1; have BK383 := n2; have HO406 := n3; have HB := n4; have HO409 := n5; clear n0 n1 n2 n3 n4 n5; clear ho hb hg hat; obtain ⟨Ao33, co33, eo33⟩ := Kd.R_slice HO409.out; subst eo33; have p410 : 0 ≤ (0 : Int) := (by omega); have q410 : 0 < (y407.length : Int) := of_decide_eq_true (by first | (with_reducible assumption) | assumption); obtain ⟨ad410, e410, hx410_0⟩ := Kd.at_int (Kd.R_reads' HO409.out).2.2 0 p410 q410; cases e410; have qi410 : (0 < y407.length) = True := eq_true (by omega); (try rw [show ((0 : Int)).toNat = 0 from rfl] at hx410_0); (try rw [Addr.add_zero'] at hx410_0); replace p410 := eq_true p410; replace q410 := eq_true q410; have p411 : 0 ≤ (1 : Int) := (by omega); have q411 : 1 < (y407.length : Int) := of_decide_eq_true (by first | (with_reducible assumption) | assumption); obtain ⟨ad411, e411, hx411_0⟩ := Kd.at_int (Kd.R_reads' HO409.out).2.2 1 p411 q411; obtain rfl : ad410 = ad411 := (by injection e411); (try simp only [show (1 : Int).toNat = 1 from rfl, Nat.reduceMul, Nat.reduceEqDiff, Go.Addr.add, ↓reduceIte] at hx411_0); have qi411 : (1 < y407.length) = True := eq_true (by omega); (try rw [show ((1 : Int)).toNat = 1 from rfl] at hx411_0); replace p411 := eq_true p411; replace q411 := eq_true q411; have p412 : 0 ≤ (2 : Int) := (by omega); have q412 : 2 < (y407.length : Int) := of_decide_eq_true (by first | (with_reducible assumption) | assumption); obtain ⟨ad412, e412, hx412_0⟩ := Kd.at_int (Kd.R_reads' HO409.out).2.2 2 p412 q412; obtain rfl : ad410 = ad412 := (by injection e412); (try simp only [show (2 : Int).toNat = 2 from rfl, Nat.reduceMul, Nat.reduceEqDiff, Go.Addr.add, ↓reduceIte] at hx412_0); have qi412 : (2 < y407.length) = True := eq_true (by omega); (try rw [show ((2 : Int)).toNat = 2 from rfl] at hx412_0); replace p412 := eq_true p412; replace q412 := eq_true q412; have p413 : 0 ≤ (0 : Int) := (by omega); have q413 : 0 < (t384.length : Int) := of_decide_eq_true (by first | (with_reducible assumption) | assumption); obtain ⟨ad413, e413, hx413_0⟩ := Kd.at_string (Kd.R_reads' HO_4.out).2.2 0 p413 q413; cases e413; have qi413 : (0 < t384.length) = True := eq_true (by omega); (try rw [show ((0 : Int)).toNat = 0 from rfl] at hx413_0); (try rw [Addr.add_zero'] at hx413_0); replace p413 := eq_true p413; replace q413 := eq_true q413) | (go_at_call 104; (with_reducible refine (impl_opOf.calls k1 (rdOf ByteArray.empty t384 0) t414 _ A25.out).mono ?_); rintro e w34 ⟨rfl, hb⟩; have n0 := aM_ (bR_ HO_4.out hb); have n1 := aM_ (bR_ HO_5.out hb); have n2 := aM_ (bR_ HO406.out hb); have n3 := aM_ (bR_ HO409.out hb); have n4 := aM_ (nB_ BK383.out hb); have n5 := aM_ (sT_ HB.out hb); clear HO_4; clear HO_5; clear HO406; clear HO409; clear BK383; clear HB; have HO_4 := n0; have HO_5 := n1; have HO406 := n2; have HO409 := n3; have BK383 := n4; have HB := n5; clear n0 n1 n2 n3 n4 n5) | ((with_reducible refine gate_dst (N := 14) rfl ?_); refine bX_ 14 (cs := #[.int .i64 0, .int .i64 0, .int .i64 0, .int .i64 0, .int .i64 0]) (t := 32) ?_; intro gb415 hg w35 hbox hb; have n0 := aM_ (bR_ HO_4.out hb); have n1 := aM_ (bR_ HO_5.out hb); have n2 := aM_ (bR_ HO406.out hb); have n3 := aM_ (bR_ HO409.out hb); have n4 := aM_ (nB_ BK383.out hb); have n5 := aM_ (sT_ HB.out hb); have n6 := aM_ (hbox); have n7 := aM_ (sZ_ hg HB.out); have n8 := aM_ (sZ_ hg HB.out); have n9 := aM_ (nL_ hg BK383.out); have n10 := aM_ (nG_ hg BK383.out); clear HO_4; clear HO_5; clear HO406; clear HO409; clear BK383; clear HB; have HO_4 := n0; have HO_5 := n1; have HO406 := n2; have HO409 := n3; have BK383 := n4; have HB := n5; have BK415 := n6; have GW415 := n7; have GE415 := n8; have NB383_415 := n9; have NB415_383 := n10; clear n0 n1 n2 n3 n4 n5 n6 n7 n8 n9 n10; clear hb hbox hg; have hnb36 := NB415_383.out; have hnc36 := NB383_415.out; obtain ⟨hcz37_0, hcz37_1, hcz37_2, hcz37_3, hcz37_4, hfz37_0, hfz37_1, hfz37_2, hfz37_3, hfz37_4⟩ := bR5_ BK415.out)); go_upto_block 2 with (first | (go_at_call 103; (with_reducible refine (impl_copyInts.calls _ _ x5_1 t401 _ ?side1 ?side2 A19.out).mono ?_); (case side1 => exact cS_ (Kd.R_reads' HO_5.out).2.2); (case side2 => exact (Kd.R_reads' HO_5.out).2.1); rintro e w28 ⟨v402, rfl, ho0, hb⟩; have n0 := aM_ (bR_ HO_4.out hb); have n1 := aM_ (Kd.R_elder' (by (with_reducible repeat (first | apply rA_ | apply rN_ | apply rD_)); exact HO_5.out) (Kd.R_base ho0) hb); have n2 := aM_ (Kd.R_lower (Kd.R_new' ho0 (Kd.R_lt (by (with_reducible repeat (first | apply rA_ | apply rN_ | apply rD_)); exact HO_5.out))) (below_size (by repeat (first | (with_reducible first | exact HB.out | apply hA_ | apply hN_ | apply hD_ | refine below_set ?_ GE383.out) | exact HB.out)))); have n3 := aM_ (nB_ BK383.out hb); have n4 := aM_ (sT_ HB.out hb); clear HO_4; clear HO_5; clear BK383; clear HB; have HO_4 := n0; have HO_5 := n1; have HO403 := n2; have BK383 := n3; have HB := n4; clear n0 n1 n2 n3 n4; (try clear ho0)) | ((with_reducible refine gate_dst (N := 41) rfl ?_); refine Kd.R_lit (Kd.int .i64) _ 3 ?hg (N := 41) ?hd (xs := ([0, 0, 0] : List Int)) (inner := [.int .i64 0, .int .i64 0, .int .i64 0]) (ok := fun _ => True) (okp := fun _ => True) ?hr ?hp (fun _ hk => hk) trivial (Below.refl _ _) (Nat.le_refl _) (by simp) ?_; (case hd => rfl); (case hg => rfl); (case hr => first | (go_simp; done) | (go_simp; rfl)); (case hp => exact (Reps.one (show Kd.M (Kd.int .i64) _ _ _ 0 [.int .i64 0] from rfl) (Reps.one (show Kd.M (Kd.int .i64) _ _ _ 0 [.int .i64 0] from rfl) (Reps.one (show Kd.M (Kd.int .i64) _ _ _ 0 [.int .i64 0] from rfl) (Reps.none _ _))))); intro v405 w29 ho30 hb hg_ hnew_; clear hg_ hnew_; (first | rw [← Ny404.out] at ho30 | (simp only [Int.reduceToNat] at ho30; rw [← Ny404.out] at ho30)); have n0 := aM_ (bR_ HO_4.out hb); have n1 := aM_ (Kd.R_elder' (by (with_reducible repeat (first | apply rA_ | apply rN_ | apply rD_)); exact HO_5.out) (Kd.R_base ho30) hb); have n2 := aM_ (Kd.R_elder' (by (with_reducible repeat (first | apply rA_ | apply rN_ | apply rD_)); exact HO403.out) (Kd.R_base ho30) hb); have n3 := aM_ (Kd.R_lower (Kd.R_new' (Kd.R_new' ho30 (Kd.R_lt (by (with_reducible repeat (first | apply rA_ | apply rN_ | apply rD_)); exact HO_5.out))) (Kd.R_lt (by (with_reducible repeat (first | apply rA_ | apply rN_ | apply rD_)); exact HO403.out))) (below_size (by repeat (first | (with_reducible first | exact HB.out | apply hA_ | apply hN_ | apply hD_ | refine below_set ?_ GE383.out) | exact HB.out)))); have n4 := aM_ (nB_ BK383.out hb); have n5 := aM_ (sT_ HB.out hb); clear HO_4; clear HO_5; clear HO403; clear BK383; clear HB; have HO_4 := n0; have HO_5 := n1; have HO403 := n2; have HO406 := n3; have BK383 := n4; have HB := n5; clear n0 n1 n2 n3 n4 n5; clear hb ho30; obtain ⟨Ao32, co32, eo32⟩ := Kd.R_slice HO406.out; subst eo32) | ((with_reducible refine gate_builtin (b := .append) (xs := #[.tmp 40, .tmp 41]) rfl ?_); at_builtin; refine Kd.R_append_rows (Kd.int .i64) (w0 := w) w.heap.size rfl (.tmp 40) (.tmp 41) 35 3 (.int .i64 0) 8 rfl Tryd.underlying35 info3 rfl (by decide) (by omega) v402 t401 y404 _ _ _ (fun k_ => some k_ ≠ (.slice Ao27 x5_1.length co27 : Value).ownBlock ∧ some k_ ≠ (.slice Ao32 y404.length co32 : Value).ownBlock) (fun _ => False) rfl rfl ?aO ?aR (fun _ _ h => h) (fun _ h => h.elim) ?aF ?aB ?aS ?aL ?_; (case aR => repeat (first | exact (Kd.R_reads' HO406.out).2.2 | (with_reducible refine Kd.C_alloc ?_ _) | (with_reducible refine Kd.C_drewN ?_ _) | (with_reducible refine Kd.C_drew ?_))); (case aB => exact (by repeat (first | (with_reducible first | exact HB.out | apply hA_ | apply hN_ | apply hD_ | refine below_set ?_ GE383.out) | exact HB.out))); (case aF => exact (fun k_ hk => ⟨Kd.fresh' (Kd.R_lt (by (with_reducible repeat (first | apply rA_ | apply rN_ | apply rD_)); exact HO_5.out)) k_ hk, Kd.fresh' (Kd.R_lt (by (with_reducible repeat (first | apply rA_ | apply rN_ | apply rD_)); exact HO406.out)) k_ hk⟩)); (case aO => exact (by (with_reducible repeat (first | apply rA_ | apply rN_ | apply rD_)); exact Kd.R_mono HO403.out (fun _ hk => ⟨hk.1.2, hk.2⟩))); (case aS => exact (below_size (by repeat (first | (with_reducible first | exact HB.out | apply hA_ | apply hN_ | apply hD_ | refine below_set ?_ GE383.out) | exact HB.out)))); (case aL => have := LMc20.out; omega); intro v408 w31 ho hb hg hat; rw [← Ny407.out] at ho; have n0 := aM_ (Kd.R_over' (by (with_reducible repeat (first | apply rA_ | apply rN_ | apply rD_)); exact HO_4.out) (Kd.R_typed (by (with_reducible repeat (first | apply rA_ | apply rN_ | apply rD_)); exact HO403.out)) (by decide) hg); have n1 := aM_ (Kd.R_after (ok := (fun k_ => some k_ ≠ (.slice Ao32 y404.length co32 : Value).ownBlock)) (by (with_reducible repeat (first | apply rA_ | apply rN_ | apply rD_)); exact Kd.R_mono HO_5.out (fun _ hk => ⟨hk.2, hk.1.2⟩)) hg hat); have n2 := aM_ (blk_grown (g := gb383) (o := .cells #[.int .i64 x3840_1, .int .i64 x3841_1, .int .i64 x3842_1, .int .i64 x3843_1, .int .i64 x3844_1] 32 (0, 0)) (by (with_reducible repeat (first | refine bN_ ?_ _ | refine bD_ ?_ | refine bA_ ?_ _)); exact BK383.out) hg (Kd.R_ne HO403.out BK383.out (by decide))); have n3 := aM_ (Kd.R_after (ok := (fun k_ => some k_ ≠ (.slice Ao27 x5_1.length co27 : Value).ownBlock)) (by (with_reducible repeat (first | apply rA_ | apply rN_ | apply rD_)); exact Kd.R_mono HO406.out (fun _ hk => ⟨hk.1.2, hk.2⟩)) hg hat); have n4 := aM_ (hb); have n5 := aM_ (ho); clear HO_4; clear HO_5; clear BK383; clear HO406; clear HB; clear HO403; have HO_4 := n0; have HO_5 := n1; have BK383 := n2; have HO406 := n3; have HB := n4; have HO409 := n5; clear n0 n1 n2 n3 n4 n5; clear ho hb hg hat; obtain ⟨Ao33, co33, eo33⟩ := Kd.R_slice HO409.out; subst eo33; have p410 : 0 ≤ (0 : Int) := (by omega); have q410 : 0 < (y407.length : Int) := of_decide_eq_true (by first | (with_reducible assumption) | assumption); obtain ⟨ad410, e410, hx410_0⟩ := Kd.at_int (Kd.R_reads' HO409.out).2.2 0 p410 q410; cases e410; have qi410 : (0 < y407.length) = True := eq_true (by omega); (try rw [show ((0 : Int)).toNat = 0 from rfl] at hx410_0); (try rw [Addr.add_zero'] at hx410_0); replace p410 := eq_true p410; replace q410 := eq_true q410; have p411 : 0 ≤ (1 : Int) := (by omega); have q411 : 1 < (y407.length : Int) := of_decide_eq_true (by first | (with_reducible assumption) | assumption); obtain ⟨ad411, e411, hx411_0⟩ := Kd.at_int (Kd.R_reads' HO409.out).2.2 1 p411 q411; obtain rfl : ad410 = ad411 := (by injection e411); (try simp only [show (1 : Int).toNat = 1 from rfl, Nat.reduceMul, Nat.reduceEqDiff, Go.Addr.add, ↓reduceIte] at hx411_0); have qi411 : (1 < y407.length) = True := eq_true (by omega); (try rw [show ((1 : Int)).toNat = 1 from rfl] at hx411_0); replace p411 := eq_true p411; replace q411 := eq_true q411; have p412 : 0 ≤ (2 : Int) := (by omega); have q412 : 2 < (y407.length : Int) := of_decide_eq_true (by first | (with_reducible assumption) | assumption); obtain ⟨ad412, e412, hx412_0⟩ := Kd.at_int (Kd.R_reads' HO409.out).2.2 2 p412 q412; obtain rfl : ad410 = ad412 := (by injection e412); (try simp only [show (2 : Int).toNat = 2 from rfl, Nat.reduceMul, Nat.reduceEqDiff, Go.Addr.add, ↓reduceIte] at hx412_0); have qi412 : (2 < y407.length) = True := eq_true (by omega); (try rw [show ((2 : Int)).toNat = 2 from rfl] at hx412_0); replace p412 := eq_true p412; replace q412 := eq_true q412; have p413 : 0 ≤ (0 : Int) := (by omega); have q413 : 0 < (t384.length : Int) := of_decide_eq_true (by first | (with_reducible assumption) | assumption); obtain ⟨ad413, e413, hx413_0⟩ := Kd.at_string (Kd.R_reads' HO_4.out).2.2 0 p413 q413; cases e413; have qi413 : (0 < t384.length) = True := eq_true (by omega); (try rw [show ((0 : Int)).toNat = 0 from rfl] at hx413_0); (try rw [Addr.add_zero'] at hx413_0); replace p413 := eq_true p413; replace q413 := eq_true q413) | (go_at_call 104; (with_reducible refine (impl_opOf.calls k1 (rdOf ByteArray.empty t384 0) t414 _ A25.out).mono ?_); rintro e w34 ⟨rfl, hb⟩; have n0 := aM_ (bR_ HO_4.out hb); have n1 := aM_ (bR_ HO_5.out hb); have n2 := aM_ (bR_ HO406.out hb); have n3 := aM_ (bR_ HO409.out hb); have n4 := aM_ (nB_ BK383.out hb); have n5 := aM_ (sT_ HB.out hb); clear HO_4; clear HO_5; clear HO406; clear HO409; clear BK383; clear HB; have HO_4 := n0; have HO_5 := n1; have HO406 := n2; have HO409 := n3; have BK383 := n4; have HB := n5; clear n0 n1 n2 n3 n4 n5) | ((with_reducible refine gate_dst (N := 14) rfl ?_); refine bX_ 14 (cs := #[.int .i64 0, .int .i64 0, .int .i64 0, .int .i64 0, .int .i64 0]) (t := 32) ?_; intro gb415 hg w35 hbox hb; have n0 := aM_ (bR_ HO_4.out hb); have n1 := aM_ (bR_ HO_5.out hb); have n2 := aM_ (bR_ HO406.out hb); have n3 := aM_ (bR_ HO409.out hb); have n4 := aM_ (nB_ BK383.out hb); have n5 := aM_ (sT_ HB.out hb); have n6 := aM_ (hbox); have n7 := aM_ (sZ_ hg HB.out); have n8 := aM_ (sZ_ hg HB.out); have n9 := aM_ (nL_ hg BK383.out); have n10 := aM_ (nG_ hg BK383.out); clear HO_4; clear HO_5; clear HO406; clear HO409; clear BK383; clear HB; have HO_4 := n0; have HO_5 := n1; have HO406 := n2; have HO409 := n3; have BK383 := n4; have HB := n5; have BK415 := n6; have GW415 := n7; have GE415 := n8; have NB383_415 := n9; have NB415_383 := n10; clear n0 n1 n2 n3 n4 n5 n6 n7 n8 n9 n10; clear hb hbox hg; have hnb36 := NB415_383.out; have hnc36 := NB383_415.out; obtain ⟨hcz37_0, hcz37_1, hcz37_2, hcz37_3, hcz37_4, hfz37_0, hfz37_1, hfz37_2, hfz37_3, hfz37_4⟩ := bR5_ BK415.out)))
          (try simp only [Act.put, List.setIfInBounds_toArray, List.set_cons_zero, List.set_cons_succ])
          go_cut [] (fun wc => ∃ (kq : Nat) (x4161_25 : Int) (x4162_25 : Int) (x4163_25 : Int) (x4164_25 : Int), Aside0 (impl_InsRead.j4 kq a0 t414 x4161_25 x4162_25 x4163_25 x4164_25 = some (r1, r2, r3, r4, r5, r6)) ∧ Aside0 (kq ≤ k1) ∧ Aside0 (wc.heap[gb383]? = some (.cells #[.int .i64 x3840_1, .int .i64 x3841_1, .int .i64 x3842_1, .int .i64 x3843_1, .int .i64 x3844_1] 32 (0, 0))) ∧ Aside0 (wc.heap[gb415]? = some (.cells #[.int .i64 t414, .int .i64 x4161_25, .int .i64 x4162_25, .int .i64 x4163_25, .int .i64 x4164_25] 32 (0, 0))) ∧ Aside0 (Below w.heap.size w wc))
          case first =>
           have H := HC26.out
           clear HC26
           by_cases c38 : t414 = 1
           ·rw [if_pos c38] at H
            have c38b0 : (t414 == 1) = true := beq_iff_eq.mpr c38
            have c38b1 : (t414 != 1) = false := bne_eq_false_iff_eq.mpr c38
            clear c38
            (first | rw [c38b0] | (simp only [i64_w, i32_w]; rw [c38b0]) | skip)
            have H' := aM_ H
            clear H
            have hnb39 := NB415_383.out
            have hnc39 := NB383_415.out
            obtain ⟨hcz40_0, hcz40_1, hcz40_2, hcz40_3, hcz40_4, hfz40_0, hfz40_1, hfz40_2, hfz40_3, hfz40_4⟩ := bR5_ BK415.out
            go_wp2
            repeat (go_quiet (fail); try go_wp2)
            go_meet
            case rel => exact ⟨_, (rd y407 0), (0), (0), (rd y407 1), H', ⟨by have := HK1.out; first | omega | exact Nat.le_refl _⟩, ⟨by (with_reducible repeat (first | refine bN_ ?_ _ | refine bD_ ?_ | refine bA_ ?_ _)); refine blk_far ?_ NB383_415.out _; (with_reducible repeat (first | refine bN_ ?_ _ | refine bD_ ?_ | refine bA_ ?_ _)); refine blk_far ?_ NB383_415.out _; (with_reducible repeat (first | refine bN_ ?_ _ | refine bD_ ?_ | refine bA_ ?_ _)); refine blk_far ?_ NB383_415.out _; (with_reducible repeat (first | refine bN_ ?_ _ | refine bD_ ?_ | refine bA_ ?_ _)); refine blk_far ?_ NB383_415.out _; (with_reducible repeat (first | refine bN_ ?_ _ | refine bD_ ?_ | refine bA_ ?_ _)); refine blk_far ?_ NB383_415.out _; (with_reducible repeat (first | refine bN_ ?_ _ | refine bD_ ?_ | refine bA_ ?_ _)); refine blk_far ?_ NB383_415.out _; (with_reducible repeat (first | refine bN_ ?_ _ | refine bD_ ?_ | refine bA_ ?_ _)); refine blk_far ?_ NB383_415.out _; (with_reducible repeat (first | refine bN_ ?_ _ | refine bD_ ?_ | refine bA_ ?_ _)); exact BK383.out⟩, ⟨by (with_reducible repeat (first | refine bN_ ?_ _ | refine bD_ ?_ | refine bA_ ?_ _)); refine blk_put (cs := #[.int .i64 t414, .int .i64 (rd y407 0), .int .i64 0, .int .i64 0, .int .i64 0]) ?_ 4 _ rfl; (with_reducible repeat (first | refine bN_ ?_ _ | refine bD_ ?_ | refine bA_ ?_ _)); refine blk_put (cs := #[.int .i64 t414, .int .i64 0, .int .i64 0, .int .i64 0, .int .i64 0]) ?_ 1 _ rfl; (with_reducible repeat (first | refine bN_ ?_ _ | refine bD_ ?_ | refine bA_ ?_ _)); refine blk_put (cs := #[.int .i64 t414, .int .i64 0, .int .i64 0, .int .i64 0, .int .i64 0]) ?_ 4 _ rfl; (with_reducible repeat (first | refine bN_ ?_ _ | refine bD_ ?_ | refine bA_ ?_ _)); refine blk_put (cs := #[.int .i64 t414, .int .i64 0, .int .i64 0, .int .i64 0, .int .i64 0]) ?_ 3 _ rfl; (with_reducible repeat (first | refine bN_ ?_ _ | refine bD_ ?_ | refine bA_ ?_ _)); refine blk_put (cs := #[.int .i64 t414, .int .i64 0, .int .i64 0, .int .i64 0, .int .i64 0]) ?_ 2 _ rfl; (with_reducible repeat (first | refine bN_ ?_ _ | refine bD_ ?_ | refine bA_ ?_ _)); refine blk_put (cs := #[.int .i64 t414, .int .i64 0, .int .i64 0, .int .i64 0, .int .i64 0]) ?_ 1 _ rfl; (with_reducible repeat (first | refine bN_ ?_ _ | refine bD_ ?_ | refine bA_ ?_ _)); refine blk_put (cs := #[.int .i64 0, .int .i64 0, .int .i64 0, .int .i64 0, .int .i64 0]) ?_ 0 _ rfl; (with_reducible repeat (first | refine bN_ ?_ _ | refine bD_ ?_ | refine bA_ ?_ _)); exact BK415.out⟩, ⟨gW_ HB.out⟩⟩
           ·rw [if_neg c38] at H
            have c38b0 : (t414 == 1) = false := beq_eq_false_iff_ne.mpr c38
            have c38b1 : (t414 != 1) = true := bne_iff_ne.mpr c38
            (first | rw [c38b0] | (simp only [i64_w, i32_w]; rw [c38b0]) | skip)
            have HC41 := aM_ H
            clear H
            go_upto_if 65 with (fail)
            repeat (go_quiet (fail); go_upto_if 65 with (fail))
            go_cut [65] (fun v65 wc => ∃ (kq : Nat) (x65_40 : Bool), v65 = .bool x65_40 ∧ Aside0 (impl_InsRead.j1 kq a0 (rd y407 0) (rd y407 1) (rd y407 2) t414 x65_40 t414 0 0 0 0 = some (r1, r2, r3, r4, r5, r6)) ∧ Aside0 (kq ≤ k1) ∧ Aside0 (wc.heap[gb383]? = some (.cells #[.int .i64 x3840_1, .int .i64 x3841_1, .int .i64 x3842_1, .int .i64 x3843_1, .int .i64 x3844_1] 32 (0, 0))) ∧ Aside0 (wc.heap[gb415]? = some (.cells #[.int .i64 t414, .int .i64 0, .int .i64 0, .int .i64 0, .int .i64 0] 32 (0, 0))) ∧ Aside0 (Below w.heap.size w wc))
            case first =>
             have H := HC41.out
             clear HC41
             by_cases c42 : t414 = 2
             ·rw [if_pos c42] at H
              have c42b0 : (t414 == 2) = true := beq_iff_eq.mpr c42
              have c42b1 : (t414 != 2) = false := bne_eq_false_iff_eq.mpr c42
              clear c42
              (first | rw [c42b0] | (simp only [i64_w, i32_w]; rw [c42b0]) | skip)
              have H' := aM_ H
              clear H
              go_wp2
              repeat (go_quiet (fail); try go_wp2)
              go_meet
              case rel => exact ⟨_, ((t414 == 2)), (by first | rfl | (simp; done) | (simp [*]; done)), H', ⟨by have := HK1.out; first | omega | exact Nat.le_refl _⟩, ⟨by (with_reducible repeat (first | refine bN_ ?_ _ | refine bD_ ?_ | refine bA_ ?_ _)); refine blk_far ?_ NB383_415.out _; (with_reducible repeat (first | refine bN_ ?_ _ | refine bD_ ?_ | refine bA_ ?_ _)); refine blk_far ?_ NB383_415.out _; (with_reducible repeat (first | refine bN_ ?_ _ | refine bD_ ?_ | refine bA_ ?_ _)); refine blk_far ?_ NB383_415.out _; (with_reducible repeat (first | refine bN_ ?_ _ | refine bD_ ?_ | refine bA_ ?_ _)); refine blk_far ?_ NB383_415.out _; (with_reducible repeat (first | refine bN_ ?_ _ | refine bD_ ?_ | refine bA_ ?_ _)); refine blk_far ?_ NB383_415.out _; (with_reducible repeat (first | refine bN_ ?_ _ | refine bD_ ?_ | refine bA_ ?_ _)); exact BK383.out⟩, ⟨by (with_reducible repeat (first | refine bN_ ?_ _ | refine bD_ ?_ | refine bA_ ?_ _)); refine blk_put (cs := #[.int .i64 t414, .int .i64 0, .int .i64 0, .int .i64 0, .int .i64 0]) ?_ 4 _ rfl; (with_reducible repeat (first | refine bN_ ?_ _ | refine bD_ ?_ | refine bA_ ?_ _)); refine blk_put (cs := #[.int .i64 t414, .int .i64 0, .int .i64 0, .int .i64 0, .int .i64 0]) ?_ 3 _ rfl; (with_reducible repeat (first | refine bN_ ?_ _ | refine bD_ ?_ | refine bA_ ?_ _)); refine blk_put (cs := #[.int .i64 t414, .int .i64 0, .int .i64 0, .int .i64 0, .int .i64 0]) ?_ 2 _ rfl; (with_reducible repeat (first | refine bN_ ?_ _ | refine bD_ ?_ | refine bA_ ?_ _)); refine blk_put (cs := #[.int .i64 t414, .int .i64 0, .int .i64 0, .int .i64 0, .int .i64 0]) ?_ 1 _ rfl; (with_reducible repeat (first | refine bN_ ?_ _ | refine bD_ ?_ | refine bA_ ?_ _)); refine blk_put (cs := #[.int .i64 0, .int .i64 0, .int .i64 0, .int .i64 0, .int .i64 0]) ?_ 0 _ rfl; (with_reducible repeat (first | refine bN_ ?_ _ | refine bD_ ?_ | refine bA_ ?_ _)); exact BK415.out⟩, ⟨gW_ HB.out⟩⟩
             ·rw [if_neg c42] at H
              have c42b0 : (t414 == 2) = false := beq_eq_false_iff_ne.mpr c42
              have c42b1 : (t414 != 2) = true := bne_iff_ne.mpr c42
              (first | rw [c42b0] | (simp only [i64_w, i32_w]; rw [c42b0]) | skip)
              by_cases c43 : t414 = 3
              ·rw [if_pos c43] at H
               have c43b0 : (t414 == 3) = true := beq_iff_eq.mpr c43
               have c43b1 : (t414 != 3) = false := bne_eq_false_iff_eq.mpr c43
               clear c43
               have H' := aM_ H
               clear H
               go_wp2
               repeat (go_quiet (fail); try go_wp2)
               go_meet
               case rel => exact ⟨_, ((t414 == 3)), (by first | rfl | (simp; done) | (simp [*]; done)), H', ⟨by have := HK1.out; first | omega | exact Nat.le_refl _⟩, ⟨by (with_reducible repeat (first | refine bN_ ?_ _ | refine bD_ ?_ | refine bA_ ?_ _)); refine blk_far ?_ NB383_415.out _; (with_reducible repeat (first | refine bN_ ?_ _ | refine bD_ ?_ | refine bA_ ?_ _)); refine blk_far ?_ NB383_415.out _; (with_reducible repeat (first | refine bN_ ?_ _ | refine bD_ ?_ | refine bA_ ?_ _)); refine blk_far ?_ NB383_415.out _; (with_reducible repeat (first | refine bN_ ?_ _ | refine bD_ ?_ | refine bA_ ?_ _)); refine blk_far ?_ NB383_415.out _; (with_reducible repeat (first | refine bN_ ?_ _ | refine bD_ ?_ | refine bA_ ?_ _)); refine blk_far ?_ NB383_415.out _; (with_reducible repeat (first | refine bN_ ?_ _ | refine bD_ ?_ | refine bA_ ?_ _)); exact BK383.out⟩, ⟨by (with_reducible repeat (first | refine bN_ ?_ _ | refine bD_ ?_ | refine bA_ ?_ _)); refine blk_put (cs := #[.int .i64 t414, .int .i64 0, .int .i64 0, .int .i64 0, .int .i64 0]) ?_ 4 _ rfl; (with_reducible repeat (first | refine bN_ ?_ _ | refine bD_ ?_ | refine bA_ ?_ _)); refine blk_put (cs := #[.int .i64 t414, .int .i64 0, .int .i64 0, .int .i64 0, .int .i64 0]) ?_ 3 _ rfl; (with_reducible repeat (first | refine bN_ ?_ _ | refine bD_ ?_ | refine bA_ ?_ _)); refine blk_put (cs := #[.int .i64 t414, .int .i64 0, .int .i64 0, .int .i64 0, .int .i64 0]) ?_ 2 _ rfl; (with_reducible repeat (first | refine bN_ ?_ _ | refine bD_ ?_ | refine bA_ ?_ _)); refine blk_put (cs := #[.int .i64 t414, .int .i64 0, .int .i64 0, .int .i64 0, .int .i64 0]) ?_ 1 _ rfl; (with_reducible repeat (first | refine bN_ ?_ _ | refine bD_ ?_ | refine bA_ ?_ _)); refine blk_put (cs := #[.int .i64 0, .int .i64 0, .int .i64 0, .int .i64 0, .int .i64 0]) ?_ 0 _ rfl; (with_reducible repeat (first | refine bN_ ?_ _ | refine bD_ ?_ | refine bA_ ?_ _)); exact BK415.out⟩, ⟨gW_ HB.out⟩⟩
              ·rw [if_neg c43] at H
               have c43b0 : (t414 == 3) = false := beq_eq_false_iff_ne.mpr c43
               have c43b1 : (t414 != 3) = true := bne_iff_ne.mpr c43
               have H' := aM_ H
               clear H
               go_wp2
               repeat (go_quiet (fail); try go_wp2)
               go_meet
               case rel => exact ⟨_, ((t414 == 4)), (by first | rfl | (simp; done) | (simp [*]; done)), H', ⟨by have := HK1.out; first | omega | exact Nat.le_refl _⟩, ⟨by (with_reducible repeat (first | refine bN_ ?_ _ | refine bD_ ?_ | refine bA_ ?_ _)); refine blk_far ?_ NB383_415.out _; (with_reducible repeat (first | refine bN_ ?_ _ | refine bD_ ?_ | refine bA_ ?_ _)); refine blk_far ?_ NB383_415.out _; (with_reducible repeat (first | refine bN_ ?_ _ | refine bD_ ?_ | refine bA_ ?_ _)); refine blk_far ?_ NB383_415.out _; (with_reducible repeat (first | refine bN_ ?_ _ | refine bD_ ?_ | refine bA_ ?_ _)); refine blk_far ?_ NB383_415.out _; (with_reducible repeat (first | refine bN_ ?_ _ | refine bD_ ?_ | refine bA_ ?_ _)); refine blk_far ?_ NB383_415.out _; (with_reducible repeat (first | refine bN_ ?_ _ | refine bD_ ?_ | refine bA_ ?_ _)); exact BK383.out⟩, ⟨by (with_reducible repeat (first | refine bN_ ?_ _ | refine bD_ ?_ | refine bA_ ?_ _)); refine blk_put (cs := #[.int .i64 t414, .int .i64 0, .int .i64 0, .int .i64 0, .int .i64 0]) ?_ 4 _ rfl; (with_reducible repeat (first | refine bN_ ?_ _ | refine bD_ ?_ | refine bA_ ?_ _)); refine blk_put (cs := #[.int .i64 t414, .int .i64 0, .int .i64 0, .int .i64 0, .int .i64 0]) ?_ 3 _ rfl; (with_reducible repeat (first | refine bN_ ?_ _ | refine bD_ ?_ | refine bA_ ?_ _)); refine blk_put (cs := #[.int .i64 t414, .int .i64 0, .int .i64 0, .int .i64 0, .int .i64 0]) ?_ 2 _ rfl; (with_reducible repeat (first | refine bN_ ?_ _ | refine bD_ ?_ | refine bA_ ?_ _)); refine blk_put (cs := #[.int .i64 t414, .int .i64 0, .int .i64 0, .int .i64 0, .int .i64 0]) ?_ 1 _ rfl; (with_reducible repeat (first | refine bN_ ?_ _ | refine bD_ ?_ | refine bA_ ?_ _)); refine blk_put (cs := #[.int .i64 0, .int .i64 0, .int .i64 0, .int .i64 0, .int .i64 0]) ?_ 0 _ rfl; (with_reducible repeat (first | refine bN_ ?_ _ | refine bD_ ?_ | refine bA_ ?_ _)); exact BK415.out⟩, ⟨gW_ HB.out⟩⟩
            case rest =>
             clear HC41
             try clear c1
             try clear c2
             try clear p2
             try clear c3
             try clear c3b0
             try clear c3b1
             try clear p3
             try clear q3
             try clear hx3
             try clear c4
             try clear p4
             try clear q4
             try clear hx4
             try clear qi4
             try clear c5
             try clear p6
             try clear c8
             try clear q8
             try clear c10
             try clear c10b0
             try clear c11
             try clear c11b0
             try clear c12
             try clear c12b0
             try clear c14
             try clear c20
             try clear c21
             try clear c21b0
             try clear c21b1
             try clear c22
             try clear c22b0
             try clear c22b1
             try clear c23
             try clear c23b0
             try clear c23b1
             try clear c24
             try clear c24b0
             try clear c24b1
             try clear c36
             try clear c38
             try clear c38b0
             try clear c38b1
             try clear c39
             try clear p39
             try clear q39
             try clear hx39
             try clear p41
             try clear q41
             try clear hx41
             try clear qi41
             try clear c42
             try clear c42b0
             try clear c42b1
             try clear c43
             try clear c43b0
             try clear c43b1
             try clear hcz18_0
             try clear hcz18_1
             try clear hcz18_2
             try clear hcz18_3
             try clear hcz18_4
             try clear hcz37_0
             try clear hcz37_1
             try clear hcz37_2
             try clear hcz37_3
             try clear hcz37_4
             try clear hcz40_0
             try clear hcz40_1
             try clear hcz40_2
             try clear hcz40_3
             try clear hcz40_4
             try clear hfz18_0
             try clear hfz18_1
             try clear hfz18_2
             try clear hfz18_3
             try clear hfz18_4
             try clear hfz37_0
             try clear hfz37_1
             try clear hfz37_2
             try clear hfz37_3
             try clear hfz37_4
             try clear hfz40_0
             try clear hfz40_1
             try clear hfz40_2
             try clear hfz40_3
             try clear hfz40_4
             try clear hx394_0
             try clear hx410_0
             try clear hx411_0
             try clear hx412_0
             try clear hx413_0
             try clear p2
             try clear p394
             try clear p410
             try clear p411
             try clear p412
             try clear p413
             try clear q394
             try clear q397
             try clear q410
             try clear q411
             try clear q412
             try clear q413
             try clear q8
             obtain ⟨kq, x65_40, rfl, HA, HJ40, BK383, BK415, HB⟩ := hcut
             cases kq with
             | zero => exact absurd HA.out (by simp [impl_InsRead.j1])
             | succ kj40 =>
              have H := HA.out
              clear HA
              simp only [impl_InsRead.j1] at H
              by_cases c44 : x65_40 = true
              ·subst c44
               have H1 : (impl_InsRead.j4 kj40 a0 t414 (rd y407 0) (rd y407 1) (rd y407 2) 0) = some (r1, r2, r3, r4, r5, r6) := by rw [if_pos rfl] at H; exact H
               clear H
               have H := H1
               clear H1
               have H' := aM_ H
               clear H
               have hnb45 := NB415_383.out
               have hnc45 := NB383_415.out
               obtain ⟨hcz46_0, hcz46_1, hcz46_2, hcz46_3, hcz46_4, hfz46_0, hfz46_1, hfz46_2, hfz46_3, hfz46_4⟩ := bR5_ BK415.out
               go_wp2
               repeat (go_quiet (fail); try go_wp2)
               go_meet
               case rel => exact ⟨_, ((rd y407 0)), ((rd y407 1)), ((rd y407 2)), (0), H', ⟨by have := HK1.out; have := HJ40.out; first | omega | exact Nat.le_refl _⟩, ⟨by (with_reducible repeat (first | refine bN_ ?_ _ | refine bD_ ?_ | refine bA_ ?_ _)); refine blk_far ?_ NB383_415.out _; (with_reducible repeat (first | refine bN_ ?_ _ | refine bD_ ?_ | refine bA_ ?_ _)); refine blk_far ?_ NB383_415.out _; (with_reducible repeat (first | refine bN_ ?_ _ | refine bD_ ?_ | refine bA_ ?_ _)); refine blk_far ?_ NB383_415.out _; (with_reducible repeat (first | refine bN_ ?_ _ | refine bD_ ?_ | refine bA_ ?_ _)); exact BK383.out⟩, ⟨by (with_reducible repeat (first | refine bN_ ?_ _ | refine bD_ ?_ | refine bA_ ?_ _)); refine blk_put (cs := #[.int .i64 t414, .int .i64 (rd y407 0), .int .i64 (rd y407 1), .int .i64 0, .int .i64 0]) ?_ 3 _ rfl; (with_reducible repeat (first | refine bN_ ?_ _ | refine bD_ ?_ | refine bA_ ?_ _)); refine blk_put (cs := #[.int .i64 t414, .int .i64 (rd y407 0), .int .i64 0, .int .i64 0, .int .i64 0]) ?_ 2 _ rfl; (with_reducible repeat (first | refine bN_ ?_ _ | refine bD_ ?_ | refine bA_ ?_ _)); refine blk_put (cs := #[.int .i64 t414, .int .i64 0, .int .i64 0, .int .i64 0, .int .i64 0]) ?_ 1 _ rfl; (with_reducible repeat (first | refine bN_ ?_ _ | refine bD_ ?_ | refine bA_ ?_ _)); exact BK415.out⟩, ⟨gW_ HB.out⟩⟩
              ·replace c44 := Bool.eq_false_iff.mpr c44
               subst c44
               have H1 : (if t414 = 5 then (impl_InsRead.j4 kj40 a0 t414 0 (rd y407 1) 0 (rd y407 0)) else (if t414 = 6 then (impl_InsRead.j2 kj40 a0 (rd y407 0) (rd y407 1) (rd y407 2) t414 (t414 == 6) t414 0 0 0 0) else (impl_InsRead.j2 kj40 a0 (rd y407 0) (rd y407 1) (rd y407 2) t414 (t414 == 8) t414 0 0 0 0))) = some (r1, r2, r3, r4, r5, r6) := by rw [if_neg (show ¬ (false = true) by decide)] at H; exact H
               clear H
               have H := H1
               clear H1
               by_cases c47 : t414 = 5
               ·rw [if_pos c47] at H
                have c47b0 : (t414 == 5) = true := beq_iff_eq.mpr c47
                have c47b1 : (t414 != 5) = false := bne_eq_false_iff_eq.mpr c47
                clear c47
                have H' := aM_ H
                clear H
                have hnb48 := NB415_383.out
                have hnc48 := NB383_415.out
                obtain ⟨hcz49_0, hcz49_1, hcz49_2, hcz49_3, hcz49_4, hfz49_0, hfz49_1, hfz49_2, hfz49_3, hfz49_4⟩ := bR5_ BK415.out
                go_wp2
                repeat (go_quiet (fail); try go_wp2)
                go_meet
                case rel => exact ⟨_, (0), ((rd y407 1)), (0), ((rd y407 0)), H', ⟨by have := HK1.out; have := HJ40.out; first | omega | exact Nat.le_refl _⟩, ⟨by (with_reducible repeat (first | refine bN_ ?_ _ | refine bD_ ?_ | refine bA_ ?_ _)); refine blk_far ?_ NB383_415.out _; (with_reducible repeat (first | refine bN_ ?_ _ | refine bD_ ?_ | refine bA_ ?_ _)); refine blk_far ?_ NB383_415.out _; (with_reducible repeat (first | refine bN_ ?_ _ | refine bD_ ?_ | refine bA_ ?_ _)); exact BK383.out⟩, ⟨by (with_reducible repeat (first | refine bN_ ?_ _ | refine bD_ ?_ | refine bA_ ?_ _)); refine blk_put (cs := #[.int .i64 t414, .int .i64 0, .int .i64 0, .int .i64 0, .int .i64 (rd y407 0)]) ?_ 2 _ rfl; (with_reducible repeat (first | refine bN_ ?_ _ | refine bD_ ?_ | refine bA_ ?_ _)); refine blk_put (cs := #[.int .i64 t414, .int .i64 0, .int .i64 0, .int .i64 0, .int .i64 0]) ?_ 4 _ rfl; (with_reducible repeat (first | refine bN_ ?_ _ | refine bD_ ?_ | refine bA_ ?_ _)); exact BK415.out⟩, ⟨gW_ HB.out⟩⟩
               ·rw [if_neg c47] at H
                have c47b0 : (t414 == 5) = false := beq_eq_false_iff_ne.mpr c47
                have c47b1 : (t414 != 5) = true := bne_iff_ne.mpr c47
                have HC50 := aM_ H
                clear H
                go_upto_if 81 with (fail)
                repeat (go_quiet (fail); go_upto_if 81 with (fail))
                go_cut [81] (fun v81 wc => ∃ (kq : Nat) (x81_49 : Bool), v81 = .bool x81_49 ∧ Aside0 (impl_InsRead.j2 kq a0 (rd y407 0) (rd y407 1) (rd y407 2) t414 x81_49 t414 0 0 0 0 = some (r1, r2, r3, r4, r5, r6)) ∧ Aside0 (kq ≤ kj40) ∧ Aside0 (wc.heap[gb383]? = some (.cells #[.int .i64 x3840_1, .int .i64 x3841_1, .int .i64 x3842_1, .int .i64 x3843_1, .int .i64 x3844_1] 32 (0, 0))) ∧ Aside0 (wc.heap[gb415]? = some (.cells #[.int .i64 t414, .int .i64 0, .int .i64 0, .int .i64 0, .int .i64 0] 32 (0, 0))) ∧ Aside0 (Below w.heap.size w wc))
                case first =>
                 have H := HC50.out
                 clear HC50
                 by_cases c51 : t414 = 6
                 ·rw [if_pos c51] at H
                  have c51b0 : (t414 == 6) = true := beq_iff_eq.mpr c51
                  have c51b1 : (t414 != 6) = false := bne_eq_false_iff_eq.mpr c51
                  clear c51
                  (first | rw [c51b0] | (simp only [i64_w, i32_w]; rw [c51b0]) | skip)
                  have H' := aM_ H
                  clear H
                  go_wp2
                  repeat (go_quiet (fail); try go_wp2)
                  go_meet
                  case rel => exact ⟨_, ((t414 == 6)), (by first | rfl | (simp; done) | (simp [*]; done)), H', ⟨by have := HK1.out; have := HJ40.out; first | omega | exact Nat.le_refl _⟩, ⟨rW_ BK383.out⟩, ⟨rW_ BK415.out⟩, ⟨gW_ HB.out⟩⟩
                 ·rw [if_neg c51] at H
                  have c51b0 : (t414 == 6) = false := beq_eq_false_iff_ne.mpr c51
                  have c51b1 : (t414 != 6) = true := bne_iff_ne.mpr c51
                  (first | rw [c51b0] | (simp only [i64_w, i32_w]; rw [c51b0]) | skip)
                  have H' := aM_ H
                  clear H
                  go_wp2
                  repeat (go_quiet (fail); try go_wp2)
                  go_meet
                  case rel => exact ⟨_, ((t414 == 8)), (by first | rfl | (simp; done) | (simp [*]; done)), H', ⟨by have := HK1.out; have := HJ40.out; first | omega | exact Nat.le_refl _⟩, ⟨rW_ BK383.out⟩, ⟨rW_ BK415.out⟩, ⟨gW_ HB.out⟩⟩
                case rest =>
                 clear HC50
                 try clear c1
                 try clear c2
                 try clear p2
                 try clear c3
                 try clear c3b0
                 try clear c3b1
                 try clear p3
                 try clear q3
                 try clear hx3
                 try clear c4
                 try clear p4
                 try clear q4
                 try clear hx4
                 try clear qi4
                 try clear c5
                 try clear p6
                 try clear c8
                 try clear q8
                 try clear c10
                 try clear c10b0
                 try clear c11
                 try clear c11b0
                 try clear c12
                 try clear c12b0
                 try clear c14
                 try clear c20
                 try clear c21
                 try clear c21b0
                 try clear c21b1
                 try clear c22
                 try clear c22b0
                 try clear c22b1
                 try clear c23
                 try clear c23b0
                 try clear c23b1
                 try clear c24
                 try clear c24b0
                 try clear c24b1
                 try clear c36
                 try clear c38
                 try clear c38b0
                 try clear c38b1
                 try clear c39
                 try clear p39
                 try clear q39
                 try clear hx39
                 try clear p41
                 try clear q41
                 try clear hx41
                 try clear qi41
                 try clear c42
                 try clear c42b0
                 try clear c42b1
                 try clear c43
                 try clear c43b0
                 try clear c43b1
                 try clear c44
                 try clear c45
                 try clear c47
                 try clear c47b0
                 try clear c47b1
                 try clear c48
                 try clear c50
                 try clear c51
                 try clear c51b0
                 try clear c51b1
                 try clear hcz18_0
                 try clear hcz18_1
                 try clear hcz18_2
                 try clear hcz18_3
                 try clear hcz18_4
                 try clear hcz37_0
                 try clear hcz37_1
                 try clear hcz37_2
                 try clear hcz37_3
                 try clear hcz37_4
                 try clear hcz40_0
                 try clear hcz40_1
                 try clear hcz40_2
                 try clear hcz40_3
                 try clear hcz40_4
                 try clear hcz46_0
                 try clear hcz46_1
                 try clear hcz46_2
                 try clear hcz46_3
                 try clear hcz46_4
                 try clear hcz49_0
                 try clear hcz49_1
                 try clear hcz49_2
                 try clear hcz49_3
                 try clear hcz49_4
                 try clear hfz18_0
                 try clear hfz18_1
                 try clear hfz18_2
                 try clear hfz18_3
                 try clear hfz18_4
                 try clear hfz37_0
                 try clear hfz37_1
                 try clear hfz37_2
                 try clear hfz37_3
                 try clear hfz37_4
                 try clear hfz40_0
                 try clear hfz40_1
                 try clear hfz40_2
                 try clear hfz40_3
                 try clear hfz40_4
                 try clear hfz46_0
                 try clear hfz46_1
                 try clear hfz46_2
                 try clear hfz46_3
                 try clear hfz46_4
                 try clear hfz49_0
                 try clear hfz49_1
                 try clear hfz49_2
                 try clear hfz49_3
                 try clear hfz49_4
                 try clear hx394_0
                 try clear hx410_0
                 try clear hx411_0
                 try clear hx412_0
                 try clear hx413_0
                 try clear p2
                 try clear p3
                 try clear p39
                 try clear p394
                 try clear p4
                 try clear p41
                 try clear p410
                 try clear p411
                 try clear p412
                 try clear p413
                 try clear p6
                 try clear q3
                 try clear q39
                 try clear q394
                 try clear q397
                 try clear q4
                 try clear q41
                 try clear q410
                 try clear q411
                 try clear q412
                 try clear q413
                 try clear q8
                 obtain ⟨kq, x81_49, rfl, HA, HJ49, BK383, BK415, HB⟩ := hcut
                 cases kq with
                 | zero => exact absurd HA.out (by simp [impl_InsRead.j2])
                 | succ kj49 =>
                  have H := HA.out
                  clear HA
                  simp only [impl_InsRead.j2] at H
                  by_cases c52 : x81_49 = true
                  ·subst c52
                   have H1 : (impl_InsRead.j4 kj49 a0 t414 (rd y407 0) 0 (rd y407 1) (rd y407 2)) = some (r1, r2, r3, r4, r5, r6) := by rw [if_pos rfl] at H; exact H
                   clear H
                   have H := H1
                   clear H1
                   have H' := aM_ H
                   clear H
                   have hnb53 := NB415_383.out
                   have hnc53 := NB383_415.out
                   obtain ⟨hcz54_0, hcz54_1, hcz54_2, hcz54_3, hcz54_4, hfz54_0, hfz54_1, hfz54_2, hfz54_3, hfz54_4⟩ := bR5_ BK415.out
                   go_wp2
                   repeat (go_quiet (fail); try go_wp2)
                   go_meet
                   case rel => exact ⟨_, ((rd y407 0)), (0), ((rd y407 1)), ((rd y407 2)), H', ⟨by have := HK1.out; have := HJ40.out; have := HJ49.out; first | omega | exact Nat.le_refl _⟩, ⟨by (with_reducible repeat (first | refine bN_ ?_ _ | refine bD_ ?_ | refine bA_ ?_ _)); refine blk_far ?_ NB383_415.out _; (with_reducible repeat (first | refine bN_ ?_ _ | refine bD_ ?_ | refine bA_ ?_ _)); refine blk_far ?_ NB383_415.out _; (with_reducible repeat (first | refine bN_ ?_ _ | refine bD_ ?_ | refine bA_ ?_ _)); refine blk_far ?_ NB383_415.out _; (with_reducible repeat (first | refine bN_ ?_ _ | refine bD_ ?_ | refine bA_ ?_ _)); exact BK383.out⟩, ⟨by (with_reducible repeat (first | refine bN_ ?_ _ | refine bD_ ?_ | refine bA_ ?_ _)); refine blk_put (cs := #[.int .i64 t414, .int .i64 (rd y407 0), .int .i64 0, .int .i64 (rd y407 1), .int .i64 0]) ?_ 4 _ rfl; (with_reducible repeat (first | refine bN_ ?_ _ | refine bD_ ?_ | refine bA_ ?_ _)); refine blk_put (cs := #[.int .i64 t414, .int .i64 (rd y407 0), .int .i64 0, .int .i64 0, .int .i64 0]) ?_ 3 _ rfl; (with_reducible repeat (first | refine bN_ ?_ _ | refine bD_ ?_ | refine bA_ ?_ _)); refine blk_put (cs := #[.int .i64 t414, .int .i64 0, .int .i64 0, .int .i64 0, .int .i64 0]) ?_ 1 _ rfl; (with_reducible repeat (first | refine bN_ ?_ _ | refine bD_ ?_ | refine bA_ ?_ _)); exact BK415.out⟩, ⟨gW_ HB.out⟩⟩
                  ·replace c52 := Bool.eq_false_iff.mpr c52
                   subst c52
                   have H1 : (if t414 = 7 then (impl_InsRead.j4 kj49 a0 t414 (rd y407 0) (rd y407 2) 0 (rd y407 1)) else (if t414 = 9 then (impl_InsRead.j3 kj49 a0 (rd y407 0) (rd y407 1) t414 (t414 == 9) t414 0 0 0 0) else (impl_InsRead.j3 kj49 a0 (rd y407 0) (rd y407 1) t414 (t414 == 11) t414 0 0 0 0))) = some (r1, r2, r3, r4, r5, r6) := by rw [if_neg (show ¬ (false = true) by decide)] at H; exact H
                   clear H
                   have H := H1
                   clear H1
                   by_cases c55 : t414 = 7
                   ·rw [if_pos c55] at H
                    have c55b0 : (t414 == 7) = true := beq_iff_eq.mpr c55
                    have c55b1 : (t414 != 7) = false := bne_eq_false_iff_eq.mpr c55
                    clear c55
                    have H' := aM_ H
                    clear H
                    have hnb56 := NB415_383.out
                    have hnc56 := NB383_415.out
                    obtain ⟨hcz57_0, hcz57_1, hcz57_2, hcz57_3, hcz57_4, hfz57_0, hfz57_1, hfz57_2, hfz57_3, hfz57_4⟩ := bR5_ BK415.out
                    go_wp2
                    repeat (go_quiet (fail); try go_wp2)
                    go_meet
                    case rel => exact ⟨_, ((rd y407 0)), ((rd y407 2)), (0), ((rd y407 1)), H', ⟨by have := HK1.out; have := HJ40.out; have := HJ49.out; first | omega | exact Nat.le_refl _⟩, ⟨by (with_reducible repeat (first | refine bN_ ?_ _ | refine bD_ ?_ | refine bA_ ?_ _)); refine blk_far ?_ NB383_415.out _; (with_reducible repeat (first | refine bN_ ?_ _ | refine bD_ ?_ | refine bA_ ?_ _)); refine blk_far ?_ NB383_415.out _; (with_reducible repeat (first | refine bN_ ?_ _ | refine bD_ ?_ | refine bA_ ?_ _)); refine blk_far ?_ NB383_415.out _; (with_reducible repeat (first | refine bN_ ?_ _ | refine bD_ ?_ | refine bA_ ?_ _)); exact BK383.out⟩, ⟨by (with_reducible repeat (first | refine bN_ ?_ _ | refine bD_ ?_ | refine bA_ ?_ _)); refine blk_put (cs := #[.int .i64 t414, .int .i64 (rd y407 0), .int .i64 0, .int .i64 0, .int .i64 (rd y407 1)]) ?_ 2 _ rfl; (with_reducible repeat (first | refine bN_ ?_ _ | refine bD_ ?_ | refine bA_ ?_ _)); refine blk_put (cs := #[.int .i64 t414, .int .i64 (rd y407 0), .int .i64 0, .int .i64 0, .int .i64 0]) ?_ 4 _ rfl; (with_reducible repeat (first | refine bN_ ?_ _ | refine bD_ ?_ | refine bA_ ?_ _)); refine blk_put (cs := #[.int .i64 t414, .int .i64 0, .int .i64 0, .int .i64 0, .int .i64 0]) ?_ 1 _ rfl; (with_reducible repeat (first | refine bN_ ?_ _ | refine bD_ ?_ | refine bA_ ?_ _)); exact BK415.out⟩, ⟨gW_ HB.out⟩⟩
                   ·rw [if_neg c55] at H
                    have c55b0 : (t414 == 7) = false := beq_eq_false_iff_ne.mpr c55
                    have c55b1 : (t414 != 7) = true := bne_iff_ne.mpr c55
                    have HC58 := aM_ H
                    clear H
                    go_upto_if 98 with (fail)
                    repeat (go_quiet (fail); go_upto_if 98 with (fail))
                    go_cut [98] (fun v98 wc => ∃ (kq : Nat) (x98_57 : Bool), v98 = .bool x98_57 ∧ Aside0 (impl_InsRead.j3 kq a0 (rd y407 0) (rd y407 1) t414 x98_57 t414 0 0 0 0 = some (r1, r2, r3, r4, r5, r6)) ∧ Aside0 (kq ≤ kj49) ∧ Aside0 (wc.heap[gb383]? = some (.cells #[.int .i64 x3840_1, .int .i64 x3841_1, .int .i64 x3842_1, .int .i64 x3843_1, .int .i64 x3844_1] 32 (0, 0))) ∧ Aside0 (wc.heap[gb415]? = some (.cells #[.int .i64 t414, .int .i64 0, .int .i64 0, .int .i64 0, .int .i64 0] 32 (0, 0))) ∧ Aside0 (Below w.heap.size w wc))
                    case first =>
                     have H := HC58.out
                     clear HC58
                     by_cases c59 : t414 = 9
                     ·rw [if_pos c59] at H
                      have c59b0 : (t414 == 9) = true := beq_iff_eq.mpr c59
                      have c59b1 : (t414 != 9) = false := bne_eq_false_iff_eq.mpr c59
                      clear c59
                      (first | rw [c59b0] | (simp only [i64_w, i32_w]; rw [c59b0]) | skip)
                      have H' := aM_ H
                      clear H
                      go_wp2
                      repeat (go_quiet (fail); try go_wp2)
                      go_meet
                      case rel => exact ⟨_, ((t414 == 9)), (by first | rfl | (simp; done) | (simp [*]; done)), H', ⟨by have := HK1.out; have := HJ40.out; have := HJ49.out; first | omega | exact Nat.le_refl _⟩, ⟨rW_ BK383.out⟩, ⟨rW_ BK415.out⟩, ⟨gW_ HB.out⟩⟩
                     ·rw [if_neg c59] at H
                      have c59b0 : (t414 == 9) = false := beq_eq_false_iff_ne.mpr c59
                      have c59b1 : (t414 != 9) = true := bne_iff_ne.mpr c59
                      (first | rw [c59b0] | (simp only [i64_w, i32_w]; rw [c59b0]) | skip)
                      have H' := aM_ H
                      clear H
                      go_wp2
                      repeat (go_quiet (fail); try go_wp2)
                      go_meet
                      case rel => exact ⟨_, ((t414 == 11)), (by first | rfl | (simp; done) | (simp [*]; done)), H', ⟨by have := HK1.out; have := HJ40.out; have := HJ49.out; first | omega | exact Nat.le_refl _⟩, ⟨rW_ BK383.out⟩, ⟨rW_ BK415.out⟩, ⟨gW_ HB.out⟩⟩
                    case rest =>
                     clear HC58
                     try clear c1
                     try clear c2
                     try clear p2
                     try clear c3
                     try clear c3b0
                     try clear c3b1
                     try clear p3
                     try clear q3
                     try clear hx3
                     try clear c4
                     try clear p4
                     try clear q4
                     try clear hx4
                     try clear qi4
                     try clear c5
                     try clear p6
                     try clear c8
                     try clear q8
                     try clear c10
                     try clear c10b0
                     try clear c11
                     try clear c11b0
                     try clear c12
                     try clear c12b0
                     try clear c14
                     try clear c20
                     try clear c21
                     try clear c21b0
                     try clear c21b1
                     try clear c22
                     try clear c22b0
                     try clear c22b1
                     try clear c23
                     try clear c23b0
                     try clear c23b1
                     try clear c24
                     try clear c24b0
                     try clear c24b1
                     try clear c36
                     try clear c38
                     try clear c38b0
                     try clear c38b1
                     try clear c39
                     try clear p39
                     try clear q39
                     try clear hx39
                     try clear p41
                     try clear q41
                     try clear hx41
                     try clear qi41
                     try clear c42
                     try clear c42b0
                     try clear c42b1
                     try clear c43
                     try clear c43b0
                     try clear c43b1
                     try clear c44
                     try clear c45
                     try clear c47
                     try clear c47b0
                     try clear c47b1
                     try clear c48
                     try clear c50
                     try clear c51
                     try clear c51b0
                     try clear c51b1
                     try clear c52
                     try clear c53
                     try clear c55
                     try clear c55b0
                     try clear c55b1
                     try clear c56
                     try clear c59
                     try clear c59b0
                     try clear c59b1
                     try clear hcz18_0
                     try clear hcz18_1
                     try clear hcz18_2
                     try clear hcz18_3
                     try clear hcz18_4
                     try clear hcz37_0
                     try clear hcz37_1
                     try clear hcz37_2
                     try clear hcz37_3
                     try clear hcz37_4
                     try clear hcz40_0
                     try clear hcz40_1
                     try clear hcz40_2
                     try clear hcz40_3
                     try clear hcz40_4
                     try clear hcz46_0
                     try clear hcz46_1
                     try clear hcz46_2
                     try clear hcz46_3
                     try clear hcz46_4
                     try clear hcz49_0
                     try clear hcz49_1
                     try clear hcz49_2
                     try clear hcz49_3
                     try clear hcz49_4
                     try clear hcz54_0
                     try clear hcz54_1
                     try clear hcz54_2
                     try clear hcz54_3
                     try clear hcz54_4
                     try clear hcz57_0
                     try clear hcz57_1
                     try clear hcz57_2
                     try clear hcz57_3
                     try clear hcz57_4
                     try clear hfz18_0
                     try clear hfz18_1
                     try clear hfz18_2
                     try clear hfz18_3
                     try clear hfz18_4
                     try clear hfz37_0
                     try clear hfz37_1
                     try clear hfz37_2
                     try clear hfz37_3
                     try clear hfz37_4
                     try clear hfz40_0
                     try clear hfz40_1
                     try clear hfz40_2
                     try clear hfz40_3
                     try clear hfz40_4
                     try clear hfz46_0
                     try clear hfz46_1
                     try clear hfz46_2
                     try clear hfz46_3
                     try clear hfz46_4
                     try clear hfz49_0
                     try clear hfz49_1
                     try clear hfz49_2
                     try clear hfz49_3
                     try clear hfz49_4
                     try clear hfz54_0
                     try clear hfz54_1
                     try clear hfz54_2
                     try clear hfz54_3
                     try clear hfz54_4
                     try clear hfz57_0
                     try clear hfz57_1
                     try clear hfz57_2
                     try clear hfz57_3
                     try clear hfz57_4
                     try clear hx394_0
                     try clear hx410_0
                     try clear hx411_0
                     try clear hx412_0
                     try clear hx413_0
                     try clear p2
                     try clear p3
                     try clear p39
                     try clear p394
                     try clear p4
                     try clear p41
                     try clear p410
                     try clear p411
                     try clear p412
                     try clear p413
                     try clear p6
                     try clear q3
                     try clear q39
                     try clear q394
                     try clear q397
                     try clear q4
                     try clear q41
                     try clear q410
                     try clear q411
                     try clear q412
                     try clear q413
                     try clear q8
                     obtain ⟨kq, x98_57, rfl, HA, HJ57, BK383, BK415, HB⟩ := hcut
                     cases kq with
                     | zero => exact absurd HA.out (by simp [impl_InsRead.j3])
                     | succ kj57 =>
                      have H := HA.out
                      clear HA
                      simp only [impl_InsRead.j3] at H
                      by_cases c60 : x98_57 = true
                      ·subst c60
                       have H1 : (impl_InsRead.j4 kj57 a0 t414 0 0 0 (rd y407 0)) = some (r1, r2, r3, r4, r5, r6) := by rw [if_pos rfl] at H; exact H
                       clear H
                       have H := H1
                       clear H1
                       have H' := aM_ H
                       clear H
                       have hnb61 := NB415_383.out
                       have hnc61 := NB383_415.out
                       obtain ⟨hcz62_0, hcz62_1, hcz62_2, hcz62_3, hcz62_4, hfz62_0, hfz62_1, hfz62_2, hfz62_3, hfz62_4⟩ := bR5_ BK415.out
                       go_wp2
                       repeat (go_quiet (fail); try go_wp2)
                       go_meet
                       case rel => exact ⟨_, (0), (0), (0), ((rd y407 0)), H', ⟨by have := HK1.out; have := HJ40.out; have := HJ49.out; have := HJ57.out; first | omega | exact Nat.le_refl _⟩, ⟨by (with_reducible repeat (first | refine bN_ ?_ _ | refine bD_ ?_ | refine bA_ ?_ _)); refine blk_far ?_ NB383_415.out _; (with_reducible repeat (first | refine bN_ ?_ _ | refine bD_ ?_ | refine bA_ ?_ _)); exact BK383.out⟩, ⟨by (with_reducible repeat (first | refine bN_ ?_ _ | refine bD_ ?_ | refine bA_ ?_ _)); refine blk_put (cs := #[.int .i64 t414, .int .i64 0, .int .i64 0, .int .i64 0, .int .i64 0]) ?_ 4 _ rfl; (with_reducible repeat (first | refine bN_ ?_ _ | refine bD_ ?_ | refine bA_ ?_ _)); exact BK415.out⟩, ⟨gW_ HB.out⟩⟩
                      ·replace c60 := Bool.eq_false_iff.mpr c60
                       subst c60
                       have H1 : (if t414 = 10 then (impl_InsRead.j4 kj57 a0 t414 0 (rd y407 0) 0 0) else (if t414 = 12 then (impl_InsRead.j4 kj57 a0 t414 0 (rd y407 0) 0 (rd y407 1)) else (impl_InsRead.j4 kj57 a0 t414 0 0 0 0))) = some (r1, r2, r3, r4, r5, r6) := by rw [if_neg (show ¬ (false = true) by decide)] at H; exact H
                       clear H
                       have H := H1
                       clear H1
                       by_cases c63 : t414 = 10
                       ·rw [if_pos c63] at H
                        have c63b0 : (t414 == 10) = true := beq_iff_eq.mpr c63
                        have c63b1 : (t414 != 10) = false := bne_eq_false_iff_eq.mpr c63
                        clear c63
                        have H' := aM_ H
                        clear H
                        have hnb64 := NB415_383.out
                        have hnc64 := NB383_415.out
                        obtain ⟨hcz65_0, hcz65_1, hcz65_2, hcz65_3, hcz65_4, hfz65_0, hfz65_1, hfz65_2, hfz65_3, hfz65_4⟩ := bR5_ BK415.out
                        go_wp2
                        repeat (go_quiet (fail); try go_wp2)
                        go_meet
                        case rel => exact ⟨_, (0), ((rd y407 0)), (0), (0), H', ⟨by have := HK1.out; have := HJ40.out; have := HJ49.out; have := HJ57.out; first | omega | exact Nat.le_refl _⟩, ⟨by (with_reducible repeat (first | refine bN_ ?_ _ | refine bD_ ?_ | refine bA_ ?_ _)); refine blk_far ?_ NB383_415.out _; (with_reducible repeat (first | refine bN_ ?_ _ | refine bD_ ?_ | refine bA_ ?_ _)); exact BK383.out⟩, ⟨by (with_reducible repeat (first | refine bN_ ?_ _ | refine bD_ ?_ | refine bA_ ?_ _)); refine blk_put (cs := #[.int .i64 t414, .int .i64 0, .int .i64 0, .int .i64 0, .int .i64 0]) ?_ 2 _ rfl; (with_reducible repeat (first | refine bN_ ?_ _ | refine bD_ ?_ | refine bA_ ?_ _)); exact BK415.out⟩, ⟨gW_ HB.out⟩⟩
                       ·rw [if_neg c63] at H
                        have c63b0 : (t414 == 10) = false := beq_eq_false_iff_ne.mpr c63
                        have c63b1 : (t414 != 10) = true := bne_iff_ne.mpr c63
                        by_cases c66 : t414 = 12
                        ·rw [if_pos c66] at H
                         have c66b0 : (t414 == 12) = true := beq_iff_eq.mpr c66
                         have c66b1 : (t414 != 12) = false := bne_eq_false_iff_eq.mpr c66
                         clear c66
                         have H' := aM_ H
                         clear H
                         have hnb67 := NB415_383.out
                         have hnc67 := NB383_415.out
                         obtain ⟨hcz68_0, hcz68_1, hcz68_2, hcz68_3, hcz68_4, hfz68_0, hfz68_1, hfz68_2, hfz68_3, hfz68_4⟩ := bR5_ BK415.out
                         go_wp2
                         repeat (go_quiet (fail); try go_wp2)
                         go_meet
                         case rel => exact ⟨_, (0), ((rd y407 0)), (0), ((rd y407 1)), H', ⟨by have := HK1.out; have := HJ40.out; have := HJ49.out; have := HJ57.out; first | omega | exact Nat.le_refl _⟩, ⟨by (with_reducible repeat (first | refine bN_ ?_ _ | refine bD_ ?_ | refine bA_ ?_ _)); refine blk_far ?_ NB383_415.out _; (with_reducible repeat (first | refine bN_ ?_ _ | refine bD_ ?_ | refine bA_ ?_ _)); refine blk_far ?_ NB383_415.out _; (with_reducible repeat (first | refine bN_ ?_ _ | refine bD_ ?_ | refine bA_ ?_ _)); exact BK383.out⟩, ⟨by (with_reducible repeat (first | refine bN_ ?_ _ | refine bD_ ?_ | refine bA_ ?_ _)); refine blk_put (cs := #[.int .i64 t414, .int .i64 0, .int .i64 (rd y407 0), .int .i64 0, .int .i64 0]) ?_ 4 _ rfl; (with_reducible repeat (first | refine bN_ ?_ _ | refine bD_ ?_ | refine bA_ ?_ _)); refine blk_put (cs := #[.int .i64 t414, .int .i64 0, .int .i64 0, .int .i64 0, .int .i64 0]) ?_ 2 _ rfl; (with_reducible repeat (first | refine bN_ ?_ _ | refine bD_ ?_ | refine bA_ ?_ _)); exact BK415.out⟩, ⟨gW_ HB.out⟩⟩
                        ·rw [if_neg c66] at H
                         have c66b0 : (t414 == 12) = false := beq_eq_false_iff_ne.mpr c66
                         have c66b1 : (t414 != 12) = true := bne_iff_ne.mpr c66
                         have H' := aM_ H
                         clear H
                         go_wp2
                         repeat (go_quiet (fail); try go_wp2)
                         go_meet
                         case rel => exact ⟨_, (0), (0), (0), (0), H', ⟨by have := HK1.out; have := HJ40.out; have := HJ49.out; have := HJ57.out; first | omega | exact Nat.le_refl _⟩, ⟨rW_ BK383.out⟩, ⟨rW_ BK415.out⟩, ⟨gW_ HB.out⟩⟩
          case rest =>
           clear HC26
           try clear c1
           try clear c2
           try clear p2
           try clear c3
           try clear c3b0
           try clear c3b1
           try clear p3
           try clear q3
           try clear hx3
           try clear c4
           try clear p4
           try clear q4
           try clear hx4
           try clear qi4
           try clear c5
           try clear c6
           try clear p6
           try clear c8
           try clear q8
           try clear c10
           try clear c10b0
           try clear c11
           try clear c11b0
           try clear c12
           try clear c12b0
           try clear c14
           try clear c20
           try clear c21
           try clear c21b0
           try clear c21b1
           try clear c22
           try clear c22b0
           try clear c22b1
           try clear c23
           try clear c23b0
           try clear c23b1
           try clear c24
           try clear c24b0
           try clear c24b1
           try clear c36
           try clear c38
           try clear c38b0
           try clear c38b1
           try clear c39
           try clear p39
           try clear q39
           try clear hx39
           try clear p41
           try clear q41
           try clear hx41
           try clear qi41
           try clear c42
           try clear c42b0
           try clear c42b1
           try clear c43
           try clear c43b0
           try clear c43b1
           try clear c44
           try clear c45
           try clear c47
           try clear c47b0
           try clear c47b1
           try clear c48
           try clear c50
           try clear c51
           try clear c51b0
           try clear c51b1
           try clear c52
           try clear c53
           try clear c55
           try clear c55b0
           try clear c55b1
           try clear c56
           try clear c59
           try clear c59b0
           try clear c59b1
           try clear c60
           try clear c61
           try clear c63
           try clear c63b0
           try clear c63b1
           try clear c64
           try clear c66
           try clear c66b0
           try clear c66b1
           try clear c67
           try clear hcz18_0
           try clear hcz18_1
           try clear hcz18_2
           try clear hcz18_3
           try clear hcz18_4
           try clear hcz37_0
           try clear hcz37_1
           try clear hcz37_2
           try clear hcz37_3
           try clear hcz37_4
           try clear hcz40_0
           try clear hcz40_1
           try clear hcz40_2
           try clear hcz40_3
           try clear hcz40_4
           try clear hcz46_0
           try clear hcz46_1
           try clear hcz46_2
           try clear hcz46_3
           try clear hcz46_4
           try clear hcz49_0
           try clear hcz49_1
           try clear hcz49_2
           try clear hcz49_3
           try clear hcz49_4
           try clear hcz54_0
           try clear hcz54_1
           try clear hcz54_2
           try clear hcz54_3
           try clear hcz54_4
           try clear hcz57_0
           try clear hcz57_1
           try clear hcz57_2
           try clear hcz57_3
           try clear hcz57_4
           try clear hcz62_0
           try clear hcz62_1
           try clear hcz62_2
           try clear hcz62_3
           try clear hcz62_4
           try clear hcz65_0
           try clear hcz65_1
           try clear hcz65_2
           try clear hcz65_3
           try clear hcz65_4
           try clear hcz68_0
           try clear hcz68_1
           try clear hcz68_2
           try clear hcz68_3
           try clear hcz68_4
           try clear hfz18_0
           try clear hfz18_1
           try clear hfz18_2
           try clear hfz18_3
           try clear hfz18_4
           try clear hfz37_0
           try clear hfz37_1
           try clear hfz37_2
           try clear hfz37_3
           try clear hfz37_4
           try clear hfz40_0
           try clear hfz40_1
           try clear hfz40_2
           try clear hfz40_3
           try clear hfz40_4
           try clear hfz46_0
           try clear hfz46_1
           try clear hfz46_2
           try clear hfz46_3
           try clear hfz46_4
           try clear hfz49_0
           try clear hfz49_1
           try clear hfz49_2
           try clear hfz49_3
           try clear hfz49_4
           try clear hfz54_0
           try clear hfz54_1
           try clear hfz54_2
           try clear hfz54_3
           try clear hfz54_4
           try clear hfz57_0
           try clear hfz57_1
           try clear hfz57_2
           try clear hfz57_3
           try clear hfz57_4
           try clear hfz62_0
           try clear hfz62_1
           try clear hfz62_2
           try clear hfz62_3
           try clear hfz62_4
           try clear hfz65_0
           try clear hfz65_1
           try clear hfz65_2
           try clear hfz65_3
           try clear hfz65_4
           try clear hfz68_0
           try clear hfz68_1
           try clear hfz68_2
           try clear hfz68_3
           try clear hfz68_4
           try clear hx394_0
           try clear hx410_0
           try clear hx411_0
           try clear hx412_0
           try clear hx413_0
           try clear p2
           try clear p3
           try clear p39
           try clear p394
           try clear p4
           try clear p41
           try clear p410
           try clear p411
           try clear p412
           try clear p413
           try clear p6
           try clear q3
           try clear q39
           try clear q394
           try clear q397
           try clear q4
           try clear q41
           try clear q410
           try clear q411
           try clear q412
           try clear q413
           try clear q8
           obtain ⟨kq, x4161_25, x4162_25, x4163_25, x4164_25, HA, HJ25, BK383, BK415, HB⟩ := hcut
           cases kq with
           | zero => exact absurd HA.out (by simp [impl_InsRead.j4])
           | succ kj25 =>
            have H := HA.out
            clear HA
            simp only [impl_InsRead.j4] at H
            replace H := Option.bind_eq_some_iff.mp H
            obtain ⟨t416, A690, H⟩ := H
            replace H : (if t416.toList = ([] : List UInt8) then (some (0, 0, 0, 0, 0, false)) else (if t416.toList = a0.toList then (some (t414, x4161_25, x4162_25, x4163_25, x4164_25, true)) else (some (0, 0, 0, 0, 0, false)))) = some (r1, r2, r3, r4, r5, r6) := H
            have A69 := aM_ A690
            clear A690
            by_cases c70 : t416.toList = ([] : List UInt8)
            ·rw [if_pos c70] at H
             have c70b0 : (t416.toList == ([] : List UInt8)) = true := beq_iff_eq.mpr c70
             have c70b1 : (t416.toList != ([] : List UInt8)) = false := bne_eq_false_iff_eq.mpr c70
             clear c70
             simp only [Option.some.injEq, Prod.mk.injEq] at H
             obtain ⟨rfl, rfl, rfl, rfl, rfl, rfl⟩ := H
             have hnb71 := NB415_383.out
             have hnc71 := NB383_415.out
             obtain ⟨hcz72_0, hcz72_1, hcz72_2, hcz72_3, hcz72_4, hfz72_0, hfz72_1, hfz72_2, hfz72_3, hfz72_4⟩ := bR5_ BK415.out
             go_wp2_with (first | (go_at_call 21; (with_reducible refine (impl_InsText.calls kj25 t414 x4161_25 x4162_25 x4163_25 x4164_25 t416 _ A69.out ?sT).mono ?_); (case sT => first | with_reducible exact hT | exact TabT.Laid.below hT (by repeat (first | (with_reducible first | exact HB.out | apply hA_ | apply hN_ | apply hD_ | refine below_set ?_ GE383.out | refine below_set ?_ GE415.out) | exact HB.out))); rintro e w73 ⟨rfl, hb⟩; have n0 := aM_ (nB_ BK383.out hb); have n1 := aM_ (nB_ BK415.out hb); have n2 := aM_ (sT_ HB.out hb); clear BK383; clear BK415; clear HB; have BK383 := n0; have BK415 := n1; have HB := n2; clear n0 n1 n2; obtain ⟨hcz74_0, hcz74_1, hcz74_2, hcz74_3, hcz74_4, hfz74_0, hfz74_1, hfz74_2, hfz74_3, hfz74_4⟩ := bR5_ BK383.out))
             repeat (go_quiet (first | (go_at_call 21; (with_reducible refine (impl_InsText.calls kj25 t414 x4161_25 x4162_25 x4163_25 x4164_25 t416 _ A69.out ?sT).mono ?_); (case sT => first | with_reducible exact hT | exact TabT.Laid.below hT (by repeat (first | (with_reducible first | exact HB.out | apply hA_ | apply hN_ | apply hD_ | refine below_set ?_ GE383.out | refine below_set ?_ GE415.out) | exact HB.out))); rintro e w73 ⟨rfl, hb⟩; have n0 := aM_ (nB_ BK383.out hb); have n1 := aM_ (nB_ BK415.out hb); have n2 := aM_ (sT_ HB.out hb); clear BK383; clear BK415; clear HB; have BK383 := n0; have BK415 := n1; have HB := n2; clear n0 n1 n2; obtain ⟨hcz74_0, hcz74_1, hcz74_2, hcz74_3, hcz74_4, hfz74_0, hfz74_1, hfz74_2, hfz74_3, hfz74_4⟩ := bR5_ BK383.out)); try go_wp2_with (first | (go_at_call 21; (with_reducible refine (impl_InsText.calls kj25 t414 x4161_25 x4162_25 x4163_25 x4164_25 t416 _ A69.out ?sT).mono ?_); (case sT => first | with_reducible exact hT | exact TabT.Laid.below hT (by repeat (first | (with_reducible first | exact HB.out | apply hA_ | apply hN_ | apply hD_ | refine below_set ?_ GE383.out | refine below_set ?_ GE415.out) | exact HB.out))); rintro e w73 ⟨rfl, hb⟩; have n0 := aM_ (nB_ BK383.out hb); have n1 := aM_ (nB_ BK415.out hb); have n2 := aM_ (sT_ HB.out hb); clear BK383; clear BK415; clear HB; have BK383 := n0; have BK415 := n1; have HB := n2; clear n0 n1 n2; obtain ⟨hcz74_0, hcz74_1, hcz74_2, hcz74_3, hcz74_4, hfz74_0, hfz74_1, hfz74_2, hfz74_3, hfz74_4⟩ := bR5_ BK383.out)))
             refine bodyPost_ret (results_ct rfl _ _ gb383 32 #[.int .i64 0, .int .i64 0, .int .i64 0, .int .i64 0, .int .i64 0] (0, 0) _ rfl (by (with_reducible repeat (first | refine bN_ ?_ _ | refine bD_ ?_ | refine bA_ ?_ _)); refine blk_put (cs := #[.int .i64 0, .int .i64 0, .int .i64 0, .int .i64 0, .int .i64 x3844_1]) ?_ 4 _ rfl; (with_reducible repeat (first | refine bN_ ?_ _ | refine bD_ ?_ | refine bA_ ?_ _)); refine blk_put (cs := #[.int .i64 0, .int .i64 0, .int .i64 0, .int .i64 x3843_1, .int .i64 x3844_1]) ?_ 3 _ rfl; (with_reducible repeat (first | refine bN_ ?_ _ | refine bD_ ?_ | refine bA_ ?_ _)); refine blk_put (cs := #[.int .i64 0, .int .i64 0, .int .i64 x3842_1, .int .i64 x3843_1, .int .i64 x3844_1]) ?_ 2 _ rfl; (with_reducible repeat (first | refine bN_ ?_ _ | refine bD_ ?_ | refine bA_ ?_ _)); refine blk_put (cs := #[.int .i64 0, .int .i64 x3841_1, .int .i64 x3842_1, .int .i64 x3843_1, .int .i64 x3844_1]) ?_ 1 _ rfl; (with_reducible repeat (first | refine bN_ ?_ _ | refine bD_ ?_ | refine bA_ ?_ _)); refine blk_put (cs := #[.int .i64 x3840_1, .int .i64 x3841_1, .int .i64 x3842_1, .int .i64 x3843_1, .int .i64 x3844_1]) ?_ 0 _ rfl; (with_reducible repeat (first | refine bN_ ?_ _ | refine bD_ ?_ | refine bA_ ?_ _)); exact BK383.out) Tryd.underlying32 rfl (by kernel_rfl)) rfl ?_
             exact fI_ HB.out
            ·rw [if_neg c70] at H
             have c70b0 : (t416.toList == ([] : List UInt8)) = false := beq_eq_false_iff_ne.mpr c70
             have c70b1 : (t416.toList != ([] : List UInt8)) = true := bne_iff_ne.mpr c70
             by_cases c75 : t416.toList = a0.toList
             ·rw [if_pos c75] at H
              have c75b0 : (t416.toList == a0.toList) = true := beq_iff_eq.mpr c75
              have c75b1 : (t416.toList != a0.toList) = false := bne_eq_false_iff_eq.mpr c75
              clear c75
              simp only [Option.some.injEq, Prod.mk.injEq] at H
              obtain ⟨rfl, rfl, rfl, rfl, rfl, rfl⟩ := H
              have hnb76 := NB415_383.out
              have hnc76 := NB383_415.out
              obtain ⟨hcz77_0, hcz77_1, hcz77_2, hcz77_3, hcz77_4, hfz77_0, hfz77_1, hfz77_2, hfz77_3, hfz77_4⟩ := bR5_ BK415.out
              go_wp2_with (first | (go_at_call 21; (with_reducible refine (impl_InsText.calls kj25 t414 x4161_25 x4162_25 x4163_25 x4164_25 t416 _ A69.out ?sT).mono ?_); (case sT => first | with_reducible exact hT | exact TabT.Laid.below hT (by repeat (first | (with_reducible first | exact HB.out | apply hA_ | apply hN_ | apply hD_ | refine below_set ?_ GE383.out | refine below_set ?_ GE415.out) | exact HB.out))); rintro e w78 ⟨rfl, hb⟩; have n0 := aM_ (nB_ BK383.out hb); have n1 := aM_ (nB_ BK415.out hb); have n2 := aM_ (sT_ HB.out hb); clear BK383; clear BK415; clear HB; have BK383 := n0; have BK415 := n1; have HB := n2; clear n0 n1 n2; obtain ⟨hcz79_0, hcz79_1, hcz79_2, hcz79_3, hcz79_4, hfz79_0, hfz79_1, hfz79_2, hfz79_3, hfz79_4⟩ := bR5_ BK415.out; obtain ⟨hcz80_0, hcz80_1, hcz80_2, hcz80_3, hcz80_4, hfz80_0, hfz80_1, hfz80_2, hfz80_3, hfz80_4⟩ := bR5_ BK383.out))
              repeat (go_quiet (first | (go_at_call 21; (with_reducible refine (impl_InsText.calls kj25 t414 x4161_25 x4162_25 x4163_25 x4164_25 t416 _ A69.out ?sT).mono ?_); (case sT => first | with_reducible exact hT | exact TabT.Laid.below hT (by repeat (first | (with_reducible first | exact HB.out | apply hA_ | apply hN_ | apply hD_ | refine below_set ?_ GE383.out | refine below_set ?_ GE415.out) | exact HB.out))); rintro e w78 ⟨rfl, hb⟩; have n0 := aM_ (nB_ BK383.out hb); have n1 := aM_ (nB_ BK415.out hb); have n2 := aM_ (sT_ HB.out hb); clear BK383; clear BK415; clear HB; have BK383 := n0; have BK415 := n1; have HB := n2; clear n0 n1 n2; obtain ⟨hcz79_0, hcz79_1, hcz79_2, hcz79_3, hcz79_4, hfz79_0, hfz79_1, hfz79_2, hfz79_3, hfz79_4⟩ := bR5_ BK415.out; obtain ⟨hcz80_0, hcz80_1, hcz80_2, hcz80_3, hcz80_4, hfz80_0, hfz80_1, hfz80_2, hfz80_3, hfz80_4⟩ := bR5_ BK383.out)); try go_wp2_with (first | (go_at_call 21; (with_reducible refine (impl_InsText.calls kj25 t414 x4161_25 x4162_25 x4163_25 x4164_25 t416 _ A69.out ?sT).mono ?_); (case sT => first | with_reducible exact hT | exact TabT.Laid.below hT (by repeat (first | (with_reducible first | exact HB.out | apply hA_ | apply hN_ | apply hD_ | refine below_set ?_ GE383.out | refine below_set ?_ GE415.out) | exact HB.out))); rintro e w78 ⟨rfl, hb⟩; have n0 := aM_ (nB_ BK383.out hb); have n1 := aM_ (nB_ BK415.out hb); have n2 := aM_ (sT_ HB.out hb); clear BK383; clear BK415; clear HB; have BK383 := n0; have BK415 := n1; have HB := n2; clear n0 n1 n2; obtain ⟨hcz79_0, hcz79_1, hcz79_2, hcz79_3, hcz79_4, hfz79_0, hfz79_1, hfz79_2, hfz79_3, hfz79_4⟩ := bR5_ BK415.out; obtain ⟨hcz80_0, hcz80_1, hcz80_2, hcz80_3, hcz80_4, hfz80_0, hfz80_1, hfz80_2, hfz80_3, hfz80_4⟩ := bR5_ BK383.out)))
              refine bodyPost_ret (results_ct rfl _ _ gb383 32 #[.int .i64 t414, .int .i64 x4161_25, .int .i64 x4162_25, .int .i64 x4163_25, .int .i64 x4164_25] (0, 0) _ rfl (by (with_reducible repeat (first | refine bN_ ?_ _ | refine bD_ ?_ | refine bA_ ?_ _)); refine blk_put (cs := #[.int .i64 t414, .int .i64 x4161_25, .int .i64 x4162_25, .int .i64 x4163_25, .int .i64 x3844_1]) ?_ 4 _ rfl; (with_reducible repeat (first | refine bN_ ?_ _ | refine bD_ ?_ | refine bA_ ?_ _)); refine blk_put (cs := #[.int .i64 t414, .int .i64 x4161_25, .int .i64 x4162_25, .int .i64 x3843_1, .int .i64 x3844_1]) ?_ 3 _ rfl; (with_reducible repeat (first | refine bN_ ?_ _ | refine bD_ ?_ | refine bA_ ?_ _)); refine blk_put (cs := #[.int .i64 t414, .int .i64 x4161_25, .int .i64 x3842_1, .int .i64 x3843_1, .int .i64 x3844_1]) ?_ 2 _ rfl; (with_reducible repeat (first | refine bN_ ?_ _ | refine bD_ ?_ | refine bA_ ?_ _)); refine blk_put (cs := #[.int .i64 t414, .int .i64 x3841_1, .int .i64 x3842_1, .int .i64 x3843_1, .int .i64 x3844_1]) ?_ 1 _ rfl; (with_reducible repeat (first | refine bN_ ?_ _ | refine bD_ ?_ | refine bA_ ?_ _)); refine blk_put (cs := #[.int .i64 x3840_1, .int .i64 x3841_1, .int .i64 x3842_1, .int .i64 x3843_1, .int .i64 x3844_1]) ?_ 0 _ rfl; (with_reducible repeat (first | refine bN_ ?_ _ | refine bD_ ?_ | refine bA_ ?_ _)); exact BK383.out) Tryd.underlying32 rfl (by kernel_rfl)) rfl ?_
              exact fI_ HB.out
             ·rw [if_neg c75] at H
              have c75b0 : (t416.toList == a0.toList) = false := beq_eq_false_iff_ne.mpr c75
              have c75b1 : (t416.toList != a0.toList) = true := bne_iff_ne.mpr c75
              simp only [Option.some.injEq, Prod.mk.injEq] at H
              obtain ⟨rfl, rfl, rfl, rfl, rfl, rfl⟩ := H
              have hnb81 := NB415_383.out
              have hnc81 := NB383_415.out
              obtain ⟨hcz82_0, hcz82_1, hcz82_2, hcz82_3, hcz82_4, hfz82_0, hfz82_1, hfz82_2, hfz82_3, hfz82_4⟩ := bR5_ BK415.out
              go_wp2_with (first | (go_at_call 21; (with_reducible refine (impl_InsText.calls kj25 t414 x4161_25 x4162_25 x4163_25 x4164_25 t416 _ A69.out ?sT).mono ?_); (case sT => first | with_reducible exact hT | exact TabT.Laid.below hT (by repeat (first | (with_reducible first | exact HB.out | apply hA_ | apply hN_ | apply hD_ | refine below_set ?_ GE383.out | refine below_set ?_ GE415.out) | exact HB.out))); rintro e w83 ⟨rfl, hb⟩; have n0 := aM_ (nB_ BK383.out hb); have n1 := aM_ (nB_ BK415.out hb); have n2 := aM_ (sT_ HB.out hb); clear BK383; clear BK415; clear HB; have BK383 := n0; have BK415 := n1; have HB := n2; clear n0 n1 n2; obtain ⟨hcz84_0, hcz84_1, hcz84_2, hcz84_3, hcz84_4, hfz84_0, hfz84_1, hfz84_2, hfz84_3, hfz84_4⟩ := bR5_ BK383.out))
              repeat (go_quiet (first | (go_at_call 21; (with_reducible refine (impl_InsText.calls kj25 t414 x4161_25 x4162_25 x4163_25 x4164_25 t416 _ A69.out ?sT).mono ?_); (case sT => first | with_reducible exact hT | exact TabT.Laid.below hT (by repeat (first | (with_reducible first | exact HB.out | apply hA_ | apply hN_ | apply hD_ | refine below_set ?_ GE383.out | refine below_set ?_ GE415.out) | exact HB.out))); rintro e w83 ⟨rfl, hb⟩; have n0 := aM_ (nB_ BK383.out hb); have n1 := aM_ (nB_ BK415.out hb); have n2 := aM_ (sT_ HB.out hb); clear BK383; clear BK415; clear HB; have BK383 := n0; have BK415 := n1; have HB := n2; clear n0 n1 n2; obtain ⟨hcz84_0, hcz84_1, hcz84_2, hcz84_3, hcz84_4, hfz84_0, hfz84_1, hfz84_2, hfz84_3, hfz84_4⟩ := bR5_ BK383.out)); try go_wp2_with (first | (go_at_call 21; (with_reducible refine (impl_InsText.calls kj25 t414 x4161_25 x4162_25 x4163_25 x4164_25 t416 _ A69.out ?sT).mono ?_); (case sT => first | with_reducible exact hT | exact TabT.Laid.below hT (by repeat (first | (with_reducible first | exact HB.out | apply hA_ | apply hN_ | apply hD_ | refine below_set ?_ GE383.out | refine below_set ?_ GE415.out) | exact HB.out))); rintro e w83 ⟨rfl, hb⟩; have n0 := aM_ (nB_ BK383.out hb); have n1 := aM_ (nB_ BK415.out hb); have n2 := aM_ (sT_ HB.out hb); clear BK383; clear BK415; clear HB; have BK383 := n0; have BK415 := n1; have HB := n2; clear n0 n1 n2; obtain ⟨hcz84_0, hcz84_1, hcz84_2, hcz84_3, hcz84_4, hfz84_0, hfz84_1, hfz84_2, hfz84_3, hfz84_4⟩ := bR5_ BK383.out)))
              refine bodyPost_ret (results_ct rfl _ _ gb383 32 #[.int .i64 0, .int .i64 0, .int .i64 0, .int .i64 0, .int .i64 0] (0, 0) _ rfl (by (with_reducible repeat (first | refine bN_ ?_ _ | refine bD_ ?_ | refine bA_ ?_ _)); refine blk_put (cs := #[.int .i64 0, .int .i64 0, .int .i64 0, .int .i64 0, .int .i64 x3844_1]) ?_ 4 _ rfl; (with_reducible repeat (first | refine bN_ ?_ _ | refine bD_ ?_ | refine bA_ ?_ _)); refine blk_put (cs := #[.int .i64 0, .int .i64 0, .int .i64 0, .int .i64 x3843_1, .int .i64 x3844_1]) ?_ 3 _ rfl; (with_reducible repeat (first | refine bN_ ?_ _ | refine bD_ ?_ | refine bA_ ?_ _)); refine blk_put (cs := #[.int .i64 0, .int .i64 0, .int .i64 x3842_1, .int .i64 x3843_1, .int .i64 x3844_1]) ?_ 2 _ rfl; (with_reducible repeat (first | refine bN_ ?_ _ | refine bD_ ?_ | refine bA_ ?_ _)); refine blk_put (cs := #[.int .i64 0, .int .i64 x3841_1, .int .i64 x3842_1, .int .i64 x3843_1, .int .i64 x3844_1]) ?_ 1 _ rfl; (with_reducible repeat (first | refine bN_ ?_ _ | refine bD_ ?_ | refine bA_ ?_ _)); refine blk_put (cs := #[.int .i64 x3840_1, .int .i64 x3841_1, .int .i64 x3842_1, .int .i64 x3843_1, .int .i64 x3844_1]) ?_ 0 _ rfl; (with_reducible repeat (first | refine bN_ ?_ _ | refine bD_ ?_ | refine bA_ ?_ _)); exact BK383.out) Tryd.underlying32 rfl (by kernel_rfl)) rfl ?_
              exact fI_ HB.out
         ·rw [if_neg c24] at H
          exact absurd H (by simp)
        ·rw [if_neg c23] at H
         exact absurd H (by simp)
       ·rw [if_neg c22] at H
        exact absurd H (by simp)
      ·rw [if_neg c21] at H
       exact absurd H (by simp)
     ·rw [if_neg c20] at H
      exact absurd H (by simp)
 ·rw [if_neg c3] at H
  exact absurd H (by simp)
end Go.Proofs.YtkjfcmgpplapeaaDoor.PFnInsText
