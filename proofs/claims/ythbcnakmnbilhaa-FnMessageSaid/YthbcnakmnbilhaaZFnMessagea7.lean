/- A part of the proof that the law FnMessage holds for every input: the words, functions and walks that its row needs, without a condition of their own. -/
import Derived.Test.YthbcnakmnbilhaaZFnMessagea2
import Derived.Test.YthbcnakmnbilhaaZFnMessagea6
import Derived.Test.YthbcnakmnbilhaaZFnMessages
namespace Go.Proofs.Ythbcnakmnbilhaa.PFnMessage
open Go.RowKit Go.Proofs.YthbcnakmnbilhaaW.PrintWords Go.Proofs.YthbcnakmnbilhaaW.PrintLast Go.Proofs.YthbcnakmnbilhaaW.PrintMore
attribute [local go_sem] max2_int min2_int max_two min_two max_three min_three max_four min_four   -- for this text's walks alone
set_option linter.unusedVariables false
set_option linter.unusedSimpArgs false
def spec_Join.l0 : Nat → List Int → List Int → List Int → Int → Option (List Int)
  | 0, _, _, _, _ => none
  | k + 1, x0, x1, x5, x6 => if x6 < (x0.length : Int) then (if x6 < (x1.length : Int) then (if 0 ≤ x6 then ((spec_l1Max.f (rd x0 x6) (rd x1 x6)).bind fun t232 => (if x5.length < 17592186044416 then (spec_Join.l0 k x0 x1 (x5 ++ [t232]) (wrap64 (x6 + 1))) else (none))) else (none)) else (some x5)) else (some x5)
def spec_Join.f (k : Nat) (l0 : List Int) (l1 : List Int) : Option (List Int) := spec_Join.l0 k l0 l1 (([] : List Int)) 0
def spec_Join.T5 : Bool × List (List Nat × List Nat) := (true, [([], []), ([], []), ([], []), ([1, 2], [1, 2]), ([3], [3]), ([], []), ([], []), ([5, 6], [5, 6]), ([7], [7]), ([4, 8], [4, 8]), ([9], [9]), ([0, 10, 9], [0, 10]), ([11, 11, 0, 1, 2, 3, 4, 5, 6, 7, 8, 9, 10, 11], [0, 11])])
def spec_Join.B5 : List Nat := [0, 0, 0, 6, 14, 0, 0, 96, 224, 510, 1022, 2047, 4095]
theorem spec_Join.tab5 : rtab .any (opsOf Try.f96 5) = spec_Join.T5 := by kernel_rfl
theorem spec_Join.bits5 : waitsOk spec_Join.T5.2 spec_Join.B5 = true := by kernel_rfl
set_option maxHeartbeats 8000000 in
set_option maxRecDepth 100000 in
theorem spec_Join.calls (k : Nat) (A0 : Option Addr) (c0 : Nat) (l0 : List Int) (A1 : Option Addr) (c1 : Nat) (l1 : List Int) (r : List Int) (w : World) (hr0 : Kd.C (Kd.int .i64) w A0 l0.length l0) (hc0 : l0.length ≤ c0) (hr1 : Kd.C (Kd.int .i64) w A1 l1.length l1) (hc1 : l1.length ≤ c1) (h : spec_Join.f k l0 l1 = some r) :
  Calls Try.prog 96 #[.slice A0 l0.length c0, .slice A1 l1.length c1] w fun e w' => ∃ v0_ : Value, e = .returned (v0_) ∧ Kd.R (Kd.int .i64) 3 w' w.heap.size (fun _ => True) v0_ r ∧ Below w.heap.size w w' := by
 have HR0 := aM_ hr0
 have HC0 := aM_ hc0
 clear hr0 hc0
 have HR1 := aM_ hr1
 have HC1 := aM_ hc1
 clear hr1 hc1
 have HB := aM_ (Below.refl w.heap.size w)
 have H : (spec_Join.l0 k l0 l1 (([] : List Int)) 0) = some r := h
 clear h
 obtain ⟨y227, hy227⟩ : ∃ y_ : List Int, y_ = (([] : List Int)) := ⟨_, rfl⟩
 replace H : (spec_Join.l0 k l0 l1 y227 0) = some r := by first | (rw [hy227]; with_reducible exact H) | (have H2_ := (Option.bind_some _ _).symm.trans H; rw [hy227]; with_reducible exact H2_) | (have H2_ := (Option.bind_some _ _).symm.trans H; with_reducible exact H2_) | with_reducible exact H | (rw [hy227]; exact H) | exact H
 have Ny227 := aM_ hy227
 clear hy227
 have H' := aM_ H
 clear H
 go_enter Try.func96, Try.ntmps96
 go_wp2_with (first | ((with_reducible refine gate_dst (N := 7) rfl ?_); (try (refine gate_guard (by rfl) ?_; dsimp only)); refine Kd.R_lit (Kd.int .i64) _ 3 ?hg (N := 7) ?hd (xs := ([] : List Int)) (inner := []) (ok := fun _ => True) (okp := fun _ => True) ?hr ?hp (fun _ hk => hk) trivial (Below.refl _ _) (Nat.le_refl _) (by simp) ?_; (case hd => rfl); (case hg => rfl); (case hr => first | (go_simp; done) | (go_simp; rfl)); (case hp => exact (Reps.none _ _)); intro v228 w3 ho4 hb hg_ hnew_; clear hg_ hnew_; (first | rw [← Ny227.out] at ho4 | (simp only [Int.reduceToNat] at ho4; rw [← Ny227.out] at ho4)); have n0 := aM_ (Kd.R_lower ho4 (below_size (gB_ HB.out))); have n1 := aM_ (sT_ HB.out hb); clear HB; have HO229 := n0; have HB := n1; clear n0 n1; clear hb ho4))
 go_loopg [5, 6] k (fun kq v5 v6 w' => ∃ (x5_1 : List Int) (x6_1 : Int), v6 = .int .i64 x6_1 ∧ Aside0 (spec_Join.l0 kq l0 l1 x5_1 x6_1 = some r) ∧ Aside0 (kq ≤ k) ∧ Aside0 (Kd.R (Kd.int .i64) 3 w' w.heap.size (fun _ => True) v5 x5_1) ∧ Aside0 (Below w.heap.size w w'))
 case atStart => exact ⟨(y227), (0), (by first | rfl | (simp; done) | (simp [*]; done)), H', ⟨Nat.le_refl _⟩, ⟨by (with_reducible repeat (first | apply rA_ | apply rN_ | apply rD_)); exact HO229.out⟩, ⟨gW_ HB.out⟩⟩
 case round =>
  clear H'
  try clear c1
  try clear p2
  obtain ⟨x5_1, x6_1, rfl, HA, HK1, HO_5, HB⟩ := hrel
  cases gk with
  | zero => exact absurd HA.out (by simp [spec_Join.l0])
  | succ k1 =>
   have H := HA.out
   clear HA
   simp only [spec_Join.l0] at H
   by_cases c5 : x6_1 < (l0.length : Int)
   ·rw [if_pos c5] at H
    have c5b0 : decide (x6_1 < (l0.length : Int)) = true := decide_eq_true c5
    clear c5
    by_cases c6 : x6_1 < (l1.length : Int)
    ·rw [if_pos c6] at H
     have c6b0 : decide (x6_1 < (l1.length : Int)) = true := decide_eq_true c6
     clear c6
     by_cases c7 : 0 ≤ x6_1
     ·rw [if_pos c7] at H
      have c7b0 : decide (0 ≤ x6_1) = true := decide_eq_true c7
      clear c7
      replace H := Option.bind_eq_some_iff.mp H
      obtain ⟨t232, A80, H⟩ := H
      replace H : (if x5_1.length < 17592186044416 then (spec_Join.l0 k1 l0 l1 (x5_1 ++ [t232]) (wrap64 (x6_1 + 1))) else (none)) = some r := H
      have A8 := aM_ A80
      clear A80
      by_cases c9 : x5_1.length < 17592186044416
      ·rw [if_pos c9] at H
       have LMc9 := aM_ c9
       clear c9
       obtain ⟨y233, hy233⟩ : ∃ y_ : List Int, y_ = (x5_1 ++ [t232]) := ⟨_, rfl⟩
       replace H : (spec_Join.l0 k1 l0 l1 y233 (wrap64 (x6_1 + 1))) = some r := by first | (rw [hy233]; with_reducible exact H) | (have H2_ := (Option.bind_some _ _).symm.trans H; rw [hy233]; with_reducible exact H2_) | (have H2_ := (Option.bind_some _ _).symm.trans H; with_reducible exact H2_) | with_reducible exact H | (rw [hy233]; exact H) | exact H
       have Ny233 := aM_ hy233
       clear hy233
       have H' := aM_ H
       clear H
       try go_wp2
       have n0 := aM_ (Kd.R_drew HO_5.out)
       have n1 := aM_ (below_drew1 HB.out)
       clear HO_5
       clear HB
       have HO_5 := n0
       have HB := n1
       clear n0 n1
       have p230 : 0 ≤ (x6_1 : Int) := of_decide_eq_true (by first | (with_reducible assumption) | assumption)
       have q230 : x6_1 < (l0.length : Int) := of_decide_eq_true (by first | (with_reducible assumption) | assumption)
       obtain ⟨ad230, e230, hx230_0⟩ := Kd.at_int HR0.out x6_1 p230 q230
       have hw230_0 := hx230_0
       cases e230
       replace hx230_0 := cB_ HB.out hx230_0
       replace p230 := eq_true p230
       replace q230 := eq_true q230
       have p231 : 0 ≤ (x6_1 : Int) := of_decide_eq_true (by first | (with_reducible assumption) | assumption)
       have q231 : x6_1 < (l1.length : Int) := of_decide_eq_true (by first | (with_reducible assumption) | assumption)
       obtain ⟨ad231, e231, hx231_0⟩ := Kd.at_int HR1.out x6_1 p231 q231
       have hw231_0 := hx231_0
       cases e231
       replace hx231_0 := cB_ HB.out hx231_0
       replace p231 := eq_true p231
       replace q231 := eq_true q231
       refine start_ (n := 13) (S := fun w' => w'.cell? (ad230.add (x6_1).toNat) = some (.int .i64 (rd l0 x6_1)) ∧ w'.cell? (ad231.add (x6_1).toNat) = some (.int .i64 (rd l1 x6_1))) (ds := []) (mk_ 13 0) (by kernel_rfl) rfl rfl ⟨(cB_ HB.out hw230_0 :), (cB_ HB.out hw231_0 :)⟩ (fun hHeld => ?_); refine with_tabW spec_Join.tab5 spec_Join.bits5 (fun HT_ HW_ => ?_)
       generalize wr.drew = w10 at HO_5 HB hx230_0 hx231_0 hHeld ⊢
       refine pU_ 0 (some 20) (mk_ 13 1) ?_
       refine pU_ 1 (some 21) (mk_ 13 3) ?_
       refine pU_ 2 (some 22) (mk_ 13 7) ?_
       refine pU_ 3 (some 23) (mk_ 13 15) ?_
       refine pU_ 5 (some 25) (mk_ 13 47) ?_
       refine pU_ 6 (some 26) (mk_ 13 111) ?_
       refine pU_ 7 (some 27) (mk_ 13 239) ?_
       refine tK2_ 4 (some 24) (mk_ 13 255) ?_
       refine tK2_ 8 (some 28) (mk_ 13 511) ?_
       refine oN_ 9 (some 29) (mk_ 13 1023) (fun K hK => ?_)
       refine gO_ Try.func95 #[.int .i64 (rd l0 x6_1), .int .i64 (rd l1 x6_1)] ?_
       with_reducible refine (spec_l1Max.calls (rd l0 x6_1) (rd l1 x6_1) t232 _ A8.out).mono ?_
       rintro e w' ⟨rfl, ⟨nd, rfl⟩⟩
       refine ⟨_, rfl, ?_⟩
       refine hK.out _ _ ⟨(cB_ HB.out hw230_0 :), (cB_ HB.out hw231_0 :)⟩ (fun hHeld => ?_)
       clear hK K
       refine norm_ (a' := ?_) ?_ ?_
       rotate_left
       ·show Act.put _ (some 29) _ = _
        simp only [pt_, pn_, sI_, s0_, s1_, i64_w, i32_w]
        rfl
       refine oN_ 10 (some 30) (mk_ 13 2047) (fun K hK => ?_)
       refine value_ (w1 := ?_) (v := ?_) (by rfl) rfl ?_ ?_
       rotate_left 2
       ·go_simp
        constructor
        ·rfl
        ·rfl
       refine hK.out _ _ ⟨(World.cell?_alloc_lt _ _ _ (World.block_lt_of_cell? _ _ ((cB_ HB.out hw230_0 :)))).trans ((cB_ HB.out hw230_0 :)), (World.cell?_alloc_lt _ _ _ (World.block_lt_of_cell? _ _ ((cB_ HB.out hw231_0 :)))).trans ((cB_ HB.out hw231_0 :))⟩ (fun hHeld => ?_)
       clear hK K
       refine norm_ (a' := ?_) ?_ ?_
       rotate_left
       ·show Act.put _ (some 30) _ = _
        simp only [pt_, pn_, sI_, s0_, s1_, i64_w, i32_w]
        rfl
       refine oN_ 11 (some 31) (mk_ 13 4095) (fun K hK => ?_)
       refine Kd.R_append_step (Kd.int .i64) (w0 := w) w.heap.size (by rfl) (.tmp 20) (.tmp 30) 31 3 (.int .i64 0) 8 rfl Try.underlying31 info3 rfl (by decide) (by omega) u5 x5_1 t232 [.int .i64 t232] (fun _ => True) (fun _ => False) rfl rfl ?aP (fun _ hk => hk.elim) ?aF ?aO ?aB ?aS ?aL ?_
       (case aP => exact rfl)
       (case aB => exact (gB_ HB.out))
       (case aF => exact (fun _ _ => trivial))
       (case aO => exact (by (with_reducible repeat (first | apply rA_ | apply rN_ | apply rD_)); exact HO_5.out))
       (case aS => exact (below_size (gB_ HB.out)))
       (case aL => have := LMc9.out; omega)
       intro v234 w11 ho hb hg hat
       rw [← Ny233.out] at ho
       have n0 := aM_ (hb)
       have n1 := aM_ (ho)
       clear HB
       clear HO_5
       have HB := n0
       have HO235 := n1
       clear n0 n1
       clear ho hb hg hat
       refine hK.out _ _ ⟨(cB_ HB.out hw230_0 :), (cB_ HB.out hw231_0 :)⟩ (fun hHeld => ?_)
       clear hK K
       refine norm_ (a' := ?_) ?_ ?_
       rotate_left
       ·show Act.put _ (some 31) _ = _
        simp only [pt_, pn_, sI_, s0_, s1_, i64_w, i32_w]
        rfl
       refine pU_ 12 (some 5) (mk_ 13 8191) ?_
       refine done_ (done_of HT_.out (by kernel_rfl)) ?_
       try go_wp2
       go_roundg k1
       case measure => have := HK1.out; omega
       case rel => exact ⟨(y233), (wrap64 (x6_1 + 1)), (by first | rfl | (simp; done) | (simp [*]; done)), H', ⟨by have := HK1.out; omega⟩, ⟨by (with_reducible repeat (first | apply rA_ | apply rN_ | apply rD_)); exact HO235.out⟩, ⟨gW_ HB.out⟩⟩
      ·rw [if_neg c9] at H
       exact absurd H (by simp)
     ·rw [if_neg c7] at H
      exact absurd H (by simp)
    ·rw [if_neg c6] at H
     have c6b0 : decide (x6_1 < (l1.length : Int)) = false := decide_eq_false c6
     clear c6
     obtain rfl := Option.some.inj H
     go_wp2
     go_ret
     exact ⟨_, fR_, by (with_reducible repeat (first | apply rA_ | apply rN_ | apply rD_)); exact HO_5.out, gB_ HB.out⟩
   ·rw [if_neg c5] at H
    have c5b0 : decide (x6_1 < (l0.length : Int)) = false := decide_eq_false c5
    clear c5
    obtain rfl := Option.some.inj H
    go_wp2
    go_ret
    exact ⟨_, fR_, by (with_reducible repeat (first | apply rA_ | apply rN_ | apply rD_)); exact HO_5.out, gB_ HB.out⟩
def spec_l6Load.f (k : Nat) (l0_0 : List (List (S43))) (l1 : List Int) (a2 : Int) (a3 : Int) (a4 : Bool) : Option (Int × List Int) := if 0 ≤ a2 then (if a2 < (l0_0.length : Int) then ((spec_l1Max.f a3 0).bind fun t238 => (if a2 < (l1.length : Int) then ((spec_l1Max.f (wrap64 ((wrap64 (((rd_L3 l0_0 a2).length : Int) - 1)) - t238)) (rd l1 a2)).bind fun t240 => ((some (([] : List Int) : List Int)).bind fun y241 => (if y241.length + l1.length < 17592186044416 then ((some (y241 ++ l1 : List Int)).bind fun y244 => (if a2 < (y244.length : Int) then ((some (y244.set (a2 : Int).toNat t240 : List Int)).bind fun y247 => (if a4 = true then (if 0 ≤ t240 then (if t240 < ((rd_L3 l0_0 a2).length : Int) then ((spec_Join.f k y247 ((rd_T43 (rd_L3 l0_0 a2) t240).f1)).bind fun t249 => (some ((rd_T43 (rd_L3 l0_0 a2) t240).f0, t249))) else (none)) else (none)) else (if 0 ≤ t240 then (if t240 < ((rd_L3 l0_0 a2).length : Int) then (some ((rd_T43 (rd_L3 l0_0 a2) t240).f0, y247)) else (none)) else (none)))) else (none))) else (none)))) else (none))) else (none)) else (none)
set_option maxHeartbeats 8000000 in
set_option maxRecDepth 100000 in
theorem spec_l6Load.calls (k : Nat) (A0_0 : Option Addr) (c0_0 : Nat) (l0_0 : List (List (S43))) (A1 : Option Addr) (c1 : Nat) (l1 : List Int) (a2 : Int) (a3 : Int) (a4 : Bool) (r1 : Int) (r2 : List Int) (w : World) (hr0_0 : Kd.C (Kd.slice 43 k43) w A0_0 l0_0.length l0_0) (hc0_0 : l0_0.length ≤ c0_0) (hr1 : Kd.C (Kd.int .i64) w A1 l1.length l1) (hc1 : l1.length ≤ c1) (h : spec_l6Load.f k l0_0 l1 a2 a3 a4 = some (r1, r2)) :
  Calls Try.prog 62 #[.agg #[.slice A0_0 l0_0.length c0_0], .slice A1 l1.length c1, .int .i64 a2, .int .i64 a3, .bool a4] w fun e w' => ∃ v1_ : Value, e = .returned (.tuple #[.int .i64 r1, v1_]) ∧ Kd.R (Kd.int .i64) 3 w' w.heap.size (fun _ => True) v1_ r2 ∧ Below w.heap.size w w' := by
 have hu24 := Try.underlying24
 have HR0_0 := aM_ hr0_0
 have HC0_0 := aM_ hc0_0
 clear hr0_0 hc0_0
 have HR1 := aM_ hr1
 have HC1 := aM_ hc1
 clear hr1 hc1
 have HB := aM_ (Below.refl w.heap.size w)
 have H : (if 0 ≤ a2 then (if a2 < (l0_0.length : Int) then ((spec_l1Max.f a3 0).bind fun t238 => (if a2 < (l1.length : Int) then ((spec_l1Max.f (wrap64 ((wrap64 (((rd_L3 l0_0 a2).length : Int) - 1)) - t238)) (rd l1 a2)).bind fun t240 => ((some (([] : List Int) : List Int)).bind fun y241 => (if y241.length + l1.length < 17592186044416 then ((some (y241 ++ l1 : List Int)).bind fun y244 => (if a2 < (y244.length : Int) then ((some (y244.set (a2 : Int).toNat t240 : List Int)).bind fun y247 => (if a4 = true then (if 0 ≤ t240 then (if t240 < ((rd_L3 l0_0 a2).length : Int) then ((spec_Join.f k y247 ((rd_T43 (rd_L3 l0_0 a2) t240).f1)).bind fun t249 => (some ((rd_T43 (rd_L3 l0_0 a2) t240).f0, t249))) else (none)) else (none)) else (if 0 ≤ t240 then (if t240 < ((rd_L3 l0_0 a2).length : Int) then (some ((rd_T43 (rd_L3 l0_0 a2) t240).f0, y247)) else (none)) else (none)))) else (none))) else (none)))) else (none))) else (none)) else (none)) = some (r1, r2) := h
 clear h
 by_cases c6 : 0 ≤ a2
 ·rw [if_pos c6] at H
  have c6b0 : decide (0 ≤ a2) = true := decide_eq_true c6
  clear c6
  by_cases c7 : a2 < (l0_0.length : Int)
  ·rw [if_pos c7] at H
   have c7b0 : decide (a2 < (l0_0.length : Int)) = true := decide_eq_true c7
   clear c7
   replace H := Option.bind_eq_some_iff.mp H
   obtain ⟨t238, A80, H⟩ := H
   replace H : (if a2 < (l1.length : Int) then ((spec_l1Max.f (wrap64 ((wrap64 (((rd_L3 l0_0 a2).length : Int) - 1)) - t238)) (rd l1 a2)).bind fun t240 => ((some (([] : List Int) : List Int)).bind fun y241 => (if y241.length + l1.length < 17592186044416 then ((some (y241 ++ l1 : List Int)).bind fun y244 => (if a2 < (y244.length : Int) then ((some (y244.set (a2 : Int).toNat t240 : List Int)).bind fun y247 => (if a4 = true then (if 0 ≤ t240 then (if t240 < ((rd_L3 l0_0 a2).length : Int) then ((spec_Join.f k y247 ((rd_T43 (rd_L3 l0_0 a2) t240).f1)).bind fun t249 => (some ((rd_T43 (rd_L3 l0_0 a2) t240).f0, t249))) else (none)) else (none)) else (if 0 ≤ t240 then (if t240 < ((rd_L3 l0_0 a2).length : Int) then (some ((rd_T43 (rd_L3 l0_0 a2) t240).f0, y247)) else (none)) else (none)))) else (none))) else (none)))) else (none)) = some (r1, r2) := H
   have A8 := aM_ A80
   clear A80
   by_cases c9 : a2 < (l1.length : Int)
   ·rw [if_pos c9] at H
    have c9b0 : decide (a2 < (l1.length : Int)) = true := decide_eq_true c9
    clear c9
    replace H := Option.bind_eq_some_iff.mp H
    obtain ⟨t240, A100, H⟩ := H
    replace H : ((some (([] : List Int) : List Int)).bind fun y241 => (if y241.length + l1.length < 17592186044416 then ((some (y241 ++ l1 : List Int)).bind fun y244 => (if a2 < (y244.length : Int) then ((some (y244.set (a2 : Int).toNat t240 : List Int)).bind fun y247 => (if a4 = true then (if 0 ≤ t240 then (if t240 < ((rd_L3 l0_0 a2).length : Int) then ((spec_Join.f k y247 ((rd_T43 (rd_L3 l0_0 a2) t240).f1)).bind fun t249 => (some ((rd_T43 (rd_L3 l0_0 a2) t240).f0, t249))) else (none)) else (none)) else (if 0 ≤ t240 then (if t240 < ((rd_L3 l0_0 a2).length : Int) then (some ((rd_T43 (rd_L3 l0_0 a2) t240).f0, y247)) else (none)) else (none)))) else (none))) else (none))) = some (r1, r2) := H
    have A10 := aM_ A100
    clear A100
    obtain ⟨y241, hy241⟩ : ∃ y_ : List Int, y_ = (([] : List Int)) := ⟨_, rfl⟩
    replace H : (if y241.length + l1.length < 17592186044416 then ((some (y241 ++ l1 : List Int)).bind fun y244 => (if a2 < (y244.length : Int) then ((some (y244.set (a2 : Int).toNat t240 : List Int)).bind fun y247 => (if a4 = true then (if 0 ≤ t240 then (if t240 < ((rd_L3 l0_0 a2).length : Int) then ((spec_Join.f k y247 ((rd_T43 (rd_L3 l0_0 a2) t240).f1)).bind fun t249 => (some ((rd_T43 (rd_L3 l0_0 a2) t240).f0, t249))) else (none)) else (none)) else (if 0 ≤ t240 then (if t240 < ((rd_L3 l0_0 a2).length : Int) then (some ((rd_T43 (rd_L3 l0_0 a2) t240).f0, y247)) else (none)) else (none)))) else (none))) else (none)) = some (r1, r2) := by first | (rw [hy241]; with_reducible exact H) | (have H2_ := (Option.bind_some _ _).symm.trans H; rw [hy241]; with_reducible exact H2_) | (have H2_ := (Option.bind_some _ _).symm.trans H; with_reducible exact H2_) | with_reducible exact H | (rw [hy241]; exact H) | exact H
    have Ny241 := aM_ hy241
    clear hy241
    by_cases c11 : y241.length + l1.length < 17592186044416
    ·rw [if_pos c11] at H
     have LMc11 := aM_ c11
     clear c11
     obtain ⟨y244, hy244⟩ : ∃ y_ : List Int, y_ = (y241 ++ l1) := ⟨_, rfl⟩
     replace H : (if a2 < (y244.length : Int) then ((some (y244.set (a2 : Int).toNat t240 : List Int)).bind fun y247 => (if a4 = true then (if 0 ≤ t240 then (if t240 < ((rd_L3 l0_0 a2).length : Int) then ((spec_Join.f k y247 ((rd_T43 (rd_L3 l0_0 a2) t240).f1)).bind fun t249 => (some ((rd_T43 (rd_L3 l0_0 a2) t240).f0, t249))) else (none)) else (none)) else (if 0 ≤ t240 then (if t240 < ((rd_L3 l0_0 a2).length : Int) then (some ((rd_T43 (rd_L3 l0_0 a2) t240).f0, y247)) else (none)) else (none)))) else (none)) = some (r1, r2) := by first | (rw [hy244]; with_reducible exact H) | (have H2_ := (Option.bind_some _ _).symm.trans H; rw [hy244]; with_reducible exact H2_) | (have H2_ := (Option.bind_some _ _).symm.trans H; with_reducible exact H2_) | with_reducible exact H | (rw [hy244]; exact H) | exact H
     have Ny244 := aM_ hy244
     clear hy244
     by_cases c12 : a2 < (y244.length : Int)
     ·rw [if_pos c12] at H
      have c12b0 : decide (a2 < (y244.length : Int)) = true := decide_eq_true c12
      clear c12
      obtain ⟨y247, hy247⟩ : ∃ y_ : List Int, y_ = (y244.set (a2 : Int).toNat t240) := ⟨_, rfl⟩
      replace H : (if a4 = true then (if 0 ≤ t240 then (if t240 < ((rd_L3 l0_0 a2).length : Int) then ((spec_Join.f k y247 ((rd_T43 (rd_L3 l0_0 a2) t240).f1)).bind fun t249 => (some ((rd_T43 (rd_L3 l0_0 a2) t240).f0, t249))) else (none)) else (none)) else (if 0 ≤ t240 then (if t240 < ((rd_L3 l0_0 a2).length : Int) then (some ((rd_T43 (rd_L3 l0_0 a2) t240).f0, y247)) else (none)) else (none))) = some (r1, r2) := by first | (rw [hy247]; with_reducible exact H) | (have H2_ := (Option.bind_some _ _).symm.trans H; rw [hy247]; with_reducible exact H2_) | (have H2_ := (Option.bind_some _ _).symm.trans H; with_reducible exact H2_) | with_reducible exact H | (rw [hy247]; exact H) | exact H
      have Ny247 := aM_ hy247
      clear hy247
      by_cases c14 : a4 = true
      ·subst c14
       have H1 : (if 0 ≤ t240 then (if t240 < ((rd_L3 l0_0 a2).length : Int) then ((spec_Join.f k y247 ((rd_T43 (rd_L3 l0_0 a2) t240).f1)).bind fun t249 => (some ((rd_T43 (rd_L3 l0_0 a2) t240).f0, t249))) else (none)) else (none)) = some (r1, r2) := by rw [if_pos rfl] at H; exact H
       clear H
       have H := H1
       clear H1
       by_cases c15 : 0 ≤ t240
       ·rw [if_pos c15] at H
        have c15b0 : decide (0 ≤ t240) = true := decide_eq_true c15
        clear c15
        by_cases c16 : t240 < ((rd_L3 l0_0 a2).length : Int)
        ·rw [if_pos c16] at H
         have c16b0 : decide (t240 < ((rd_L3 l0_0 a2).length : Int)) = true := decide_eq_true c16
         clear c16
         replace H := Option.bind_eq_some_iff.mp H
         obtain ⟨t249, A170, H⟩ := H
         replace H : (some ((rd_T43 (rd_L3 l0_0 a2) t240).f0, t249)) = some (r1, r2) := H
         have A17 := aM_ A170
         clear A170
         simp only [Option.some.injEq, Prod.mk.injEq] at H
         obtain ⟨rfl, rfl⟩ := H
         go_enter Try.func62, Try.ntmps62
         go_wp2_with (first | ((with_reducible refine gate_dst (N := 5) rfl ?_); refine bX_ 5 (cs := #[.slice A0_0 l0_0.length c0_0]) (t := 24) ?_; intro gb236 hg w18 hbox hb; have n0 := aM_ (sT_ HB.out hb); have n1 := aM_ (hbox); have n2 := aM_ (sZ_ hg HB.out); have n3 := aM_ (sZ_ hg HB.out); clear HB; have HB := n0; have BK236 := n1; have GW236 := n2; have GE236 := n3; clear n0 n1 n2 n3; clear hb hbox hg; have hcz19_0 : w18.cell? ⟨gb236, 0, none⟩ = some (.slice A0_0 l0_0.length c0_0) := (blk_cell BK236.out 0).trans rfl; have hfz19_0 := blk_frozen BK236.out 0; have p237 : 0 ≤ (a2 : Int) := of_decide_eq_true (by first | (with_reducible assumption) | assumption); have q237 : a2 < (l0_0.length : Int) := of_decide_eq_true (by first | (with_reducible assumption) | assumption); obtain ⟨ad237, A237_0, c237_0, e237, hx237_0, hl237_0, hi237_0⟩ := at_L3 HR0_0.out a2 p237 q237; cases e237; replace hx237_0 := cB_ HB.out hx237_0; have HR237_0 := aM_ hi237_0; have HC237_0 := aM_ hl237_0; clear hi237_0 hl237_0; replace p237 := eq_true p237; replace q237 := eq_true q237; have p239 : 0 ≤ (a2 : Int) := of_decide_eq_true (by first | (with_reducible assumption) | assumption); have q239 : a2 < (l1.length : Int) := of_decide_eq_true (by first | (with_reducible assumption) | assumption); obtain ⟨ad239, e239, hx239_0⟩ := Kd.at_int HR1.out a2 p239 q239; cases e239; replace hx239_0 := cB_ HB.out hx239_0; replace p239 := eq_true p239; replace q239 := eq_true q239) | (go_at_call 95; (with_reducible refine (spec_l1Max.calls a3 0 t238 _ A8.out).mono ?_); rintro e w' ⟨rfl, ⟨nd, rfl⟩⟩; (try first | exact ⟨rfl, _, World.drewN_drewN _ _ _⟩ | exact ⟨rfl, _, Eq.trans (World.drewN_drewN _ _ _) (congrArg (World.drewN _) (Nat.add_assoc _ _ _))⟩)) | (go_at_call 95; (with_reducible refine (spec_l1Max.calls (wrap64 ((wrap64 (((rd_L3 l0_0 a2).length : Int) - 1)) - t238)) (rd l1 a2) t240 _ A10.out).mono ?_); rintro e w' ⟨rfl, ⟨nd, rfl⟩⟩; (try first | exact ⟨rfl, _, World.drewN_drewN _ _ _⟩ | exact ⟨rfl, _, Eq.trans (World.drewN_drewN _ _ _) (congrArg (World.drewN _) (Nat.add_assoc _ _ _))⟩)) | ((with_reducible refine gate_dst (N := 31) rfl ?_); refine Kd.R_lit (Kd.int .i64) _ 3 ?hg (N := 31) ?hd (xs := ([] : List Int)) (inner := []) (ok := fun _ => True) (okp := fun _ => True) ?hr ?hp (fun _ hk => hk) trivial (Below.refl _ _) (Nat.le_refl _) (by simp) ?_; (case hd => rfl); (case hg => rfl); (case hr => first | (go_simp; done) | (go_simp; rfl)); (case hp => exact (Reps.none _ _)); intro v242 w20 ho21 hb hg_ hnew_; clear hg_ hnew_; (first | rw [← Ny241.out] at ho21 | (simp only [Int.reduceToNat] at ho21; rw [← Ny241.out] at ho21)); have n0 := aM_ (Kd.R_lower ho21 (below_size (gB_ HB.out))); have n1 := aM_ (nB_ BK236.out hb); have n2 := aM_ (sT_ HB.out hb); clear BK236; clear HB; have HO243 := n0; have BK236 := n1; have HB := n2; clear n0 n1 n2; clear hb ho21) | ((with_reducible refine gate_builtin (b := .append) (xs := #[.tmp 31, .tmp 32]) rfl ?_); at_builtin; refine Kd.R_append_rows (Kd.int .i64) (w0 := w) w.heap.size rfl (.tmp 31) (.tmp 32) 31 3 (.int .i64 0) 8 rfl Try.underlying31 info3 rfl (by decide) (by omega) v242 y241 l1 _ _ _ (fun _ => True) (fun _ => False) rfl rfl ?aO ?aR (fun _ _ h => h) (fun _ h => h.elim) ?aF ?aB ?aS ?aL ?_; (case aR => repeat (first | exact (Kd.C_below HR1.out HB.out) | (with_reducible refine Kd.C_alloc ?_ _) | (with_reducible refine Kd.C_drewN ?_ _) | (with_reducible refine Kd.C_drew ?_))); (case aB => exact (gB_ HB.out)); (case aF => exact (fun _ _ => trivial)); (case aO => exact (by (with_reducible repeat (first | apply rA_ | apply rN_ | apply rD_)); exact HO243.out)); (case aS => exact (below_size (gB_ HB.out))); (case aL => have := LMc11.out; omega); intro v245 w22 ho hb hg hat; rw [← Ny244.out] at ho; have n0 := aM_ (blk_grown (g := gb236) (o := .cells #[.slice (some ad237) l0_0.length c0_0] 24 (0, 0)) (by (with_reducible repeat (first | refine bN_ ?_ _ | refine bD_ ?_ | refine bA_ ?_ _)); exact BK236.out) hg (Kd.R_ne HO243.out BK236.out (by decide))); have n1 := aM_ (hb); have n2 := aM_ (ho); clear BK236; clear HB; clear HO243; have BK236 := n0; have HB := n1; have HO246 := n2; clear n0 n1 n2; clear ho hb hg hat; have p13 : 0 ≤ (a2 : Int) := of_decide_eq_true (by first | (with_reducible assumption) | assumption); have q13 : (a2 : Int) < ((y244.length : Int) : Int) := of_decide_eq_true (by first | (with_reducible assumption) | assumption); obtain ⟨go13, co13, eo13, gb13, gl13, cl13, HG13⟩ := Kd.R_form HO246.out (by omega); (first | cases eo13 | (injection eo13 with ea_ en_ ec_; (first | subst ea_ | (injection ea_ with ea_; subst ea_)); subst ec_; clear en_)); have GB13 := aM_ gb13; have GG13 := aM_ HG13; clear gb13 gl13 HG13; obtain ⟨hx13_0, hf13_0⟩ := Kd.R_celln 0 HO246.out (a2 : Int) p13 q13; replace p13 := eq_true p13; replace q13 := eq_true q13; obtain ⟨hy23_, hz23_⟩ := Kd.R_celln 0 HO246.out (a2 : Int) (of_decide_eq_true (by first | (with_reducible assumption) | assumption)) (of_decide_eq_true (by first | (with_reducible assumption) | assumption)); have HP23 := Kd.R_putg HO246.out (a2 : Int) t240) | ((with_reducible refine gate_store (t := 3) (p := 37) rfl ?_); (try (rw [drewN_self w22]; generalize hq_ : World.drewN w22 _ = w22; have n0 := aM_ (Kd.R_at hq_ HO246.out); have n1 := aM_ (blk_at hq_ BK236.out); have n2 := aM_ (below_at hq_ HB.out); clear hq_ HO246 BK236 HB; have HO246 := n0; have BK236 := n1; have HB := n2; clear n0 n1 n2; (try (obtain ⟨hy23_, hz23_⟩ := Kd.R_celln 0 HO246.out (a2 : Int) (of_decide_eq_true (by first | (with_reducible assumption) | assumption)) (of_decide_eq_true (by first | (with_reducible assumption) | assumption)))); (try (have HP23 := Kd.R_putg HO246.out (a2 : Int) t240)))); refine store_event (t := 3) (p := 37) (v := ?vo_w24) (w1 := (w22.setCell ⟨go13, (a2 : Int).toNat, none⟩ (.int .i64 t240))) ?hg ?ho ?hn ?hr ?_; (case ho => rfl); (case hg => rfl); (case hn => rfl); (case hr => first | (go_simp; done) | (go_simp; rfl)); intro w24 hw; have hg : w22.grownBy w24 (some go13) := (by rw [hw]; exact HP23.2); have hp_ : Kd.R (Kd.int .i64) 3 w24 w.heap.size (fun _ => True) (.slice (some ⟨go13, 0, none⟩) y244.length co13) y247 := (by rw [hw, Ny247.out]; exact HP23.1); clear HP23; have n0 := aM_ (blk_grown (g := gb236) (o := .cells #[.slice (some ad237) l0_0.length c0_0] 24 (0, 0)) (by (with_reducible repeat (first | refine bN_ ?_ _ | refine bD_ ?_ | refine bA_ ?_ _)); exact BK236.out) hg (Kd.R_ne HO246.out BK236.out (by decide))); have n1 := aM_ (hp_); have n2 := aM_ ((by rw [hw]; exact below_set (HB.out) GB13.out : Below w.heap.size w w24)); clear BK236; clear HO246; clear HB; have BK236 := n0; have HO246 := n1; have HB := n2; clear n0 n1 n2; clear hg hw hp_; have p248 : 0 ≤ (t240 : Int) := of_decide_eq_true (by first | (with_reducible assumption) | assumption); have q248 : t240 < ((rd_L3 l0_0 a2).length : Int) := of_decide_eq_true (by first | (with_reducible assumption) | assumption); obtain ⟨ad248, A248_1, c248_1, e248, hx248_0, hx248_1, hl248_1, hi248_1⟩ := at_T43 HR237_0.out t240 p248 q248; cases e248; replace hx248_0 := cB_ HB.out hx248_0; replace hx248_1 := cB_ HB.out hx248_1; have HR248_1 := aM_ hi248_1; have HC248_1 := aM_ hl248_1; clear hi248_1 hl248_1; replace p248 := eq_true p248; replace q248 := eq_true q248) | (go_at_call 96; refine calls_of_args (args' := #[.slice (some ⟨go13, 0, none⟩) y247.length co13, .slice A248_1 ((rd_T43 (rd_L3 l0_0 a2) t240).f1).length c248_1]) (by first | (rw [show y247.length = y244.length from (Kd.R_reads' HO246.out).1.symm] <;> rfl) | rfl) ?_; (with_reducible refine (spec_Join.calls k _ _ y247 _ _ ((rd_T43 (rd_L3 l0_0 a2) t240).f1) t249 _ ?side1 ?side2 ?side3 ?side4 A17.out).mono ?_); (case side1 => exact cS_ (Kd.R_reads' HO246.out).2.2); (case side2 => rw [show y247.length = y244.length from (Kd.R_reads' HO246.out).1.symm]; exact (Kd.R_reads' HO246.out).2.1); (case side3 => exact cS_ (Kd.C_below HR248_1.out HB.out)); (case side4 => exact HC248_1.out); rintro e w25 ⟨v250, rfl, ho0, hb⟩; have n0 := aM_ (Kd.R_elder' (by (with_reducible repeat (first | apply rA_ | apply rN_ | apply rD_)); exact HO246.out) (Kd.R_base ho0) hb); have n1 := aM_ (Kd.R_lower (Kd.R_new' ho0 (Kd.R_lt (by (with_reducible repeat (first | apply rA_ | apply rN_ | apply rD_)); exact HO246.out))) (below_size (gB_ HB.out))); have n2 := aM_ (nB_ BK236.out hb); have n3 := aM_ (sT_ HB.out hb); clear HO246; clear BK236; clear HB; have HO246 := n0; have HO251 := n1; have BK236 := n2; have HB := n3; clear n0 n1 n2 n3; (try clear ho0); have p252 : 0 ≤ (t240 : Int) := of_decide_eq_true (by first | (with_reducible assumption) | assumption); have q252 : t240 < ((rd_L3 l0_0 a2).length : Int) := of_decide_eq_true (by first | (with_reducible assumption) | assumption); obtain ⟨ad252, A252_1, c252_1, e252, hx252_0, hx252_1, hl252_1, hi252_1⟩ := at_T43 HR237_0.out t240 p252 q252; obtain rfl : ad248 = ad252 := (by injection e252); replace hx252_0 := cB_ HB.out hx252_0; replace hx252_1 := cB_ HB.out hx252_1; have HR252_1 := aM_ hi252_1; have HC252_1 := aM_ hl252_1; clear hi252_1 hl252_1; replace p252 := eq_true p252; replace q252 := eq_true q252))
         repeat (go_quiet (first | ((with_reducible refine gate_dst (N := 5) rfl ?_); refine bX_ 5 (cs := #[.slice A0_0 l0_0.length c0_0]) (t := 24) ?_; intro gb236 hg w18 hbox hb; have n0 := aM_ (sT_ HB.out hb); have n1 := aM_ (hbox); have n2 := aM_ (sZ_ hg HB.out); have n3 := aM_ (sZ_ hg HB.out); clear HB; have HB := n0; have BK236 := n1; have GW236 := n2; have GE236 := n3; clear n0 n1 n2 n3; clear hb hbox hg; have hcz19_0 : w18.cell? ⟨gb236, 0, none⟩ = some (.slice A0_0 l0_0.length c0_0) := (blk_cell BK236.out 0).trans rfl; have hfz19_0 := blk_frozen BK236.out 0; have p237 : 0 ≤ (a2 : Int) := of_decide_eq_true (by first | (with_reducible assumption) | assumption); have q237 : a2 < (l0_0.length : Int) := of_decide_eq_true (by first | (with_reducible assumption) | assumption); obtain ⟨ad237, A237_0, c237_0, e237, hx237_0, hl237_0, hi237_0⟩ := at_L3 HR0_0.out a2 p237 q237; cases e237; replace hx237_0 := cB_ HB.out hx237_0; have HR237_0 := aM_ hi237_0; have HC237_0 := aM_ hl237_0; clear hi237_0 hl237_0; replace p237 := eq_true p237; replace q237 := eq_true q237; have p239 : 0 ≤ (a2 : Int) := of_decide_eq_true (by first | (with_reducible assumption) | assumption); have q239 : a2 < (l1.length : Int) := of_decide_eq_true (by first | (with_reducible assumption) | assumption); obtain ⟨ad239, e239, hx239_0⟩ := Kd.at_int HR1.out a2 p239 q239; cases e239; replace hx239_0 := cB_ HB.out hx239_0; replace p239 := eq_true p239; replace q239 := eq_true q239) | (go_at_call 95; (with_reducible refine (spec_l1Max.calls a3 0 t238 _ A8.out).mono ?_); rintro e w' ⟨rfl, ⟨nd, rfl⟩⟩; (try first | exact ⟨rfl, _, World.drewN_drewN _ _ _⟩ | exact ⟨rfl, _, Eq.trans (World.drewN_drewN _ _ _) (congrArg (World.drewN _) (Nat.add_assoc _ _ _))⟩)) | (go_at_call 95; (with_reducible refine (spec_l1Max.calls (wrap64 ((wrap64 (((rd_L3 l0_0 a2).length : Int) - 1)) - t238)) (rd l1 a2) t240 _ A10.out).mono ?_); rintro e w' ⟨rfl, ⟨nd, rfl⟩⟩; (try first | exact ⟨rfl, _, World.drewN_drewN _ _ _⟩ | exact ⟨rfl, _, Eq.trans (World.drewN_drewN _ _ _) (congrArg (World.drewN _) (Nat.add_assoc _ _ _))⟩)) | ((with_reducible refine gate_dst (N := 31) rfl ?_); refine Kd.R_lit (Kd.int .i64) _ 3 ?hg (N := 31) ?hd (xs := ([] : List Int)) (inner := []) (ok := fun _ => True) (okp := fun _ => True) ?hr ?hp (fun _ hk => hk) trivial (Below.refl _ _) (Nat.le_refl _) (by simp) ?_; (case hd => rfl); (case hg => rfl); (case hr => first | (go_simp; done) | (go_simp; rfl)); (case hp => exact (Reps.none _ _)); intro v242 w20 ho21 hb hg_ hnew_; clear hg_ hnew_; (first | rw [← Ny241.out] at ho21 | (simp only [Int.reduceToNat] at ho21; rw [← Ny241.out] at ho21)); have n0 := aM_ (Kd.R_lower ho21 (below_size (gB_ HB.out))); have n1 := aM_ (nB_ BK236.out hb); have n2 := aM_ (sT_ HB.out hb); clear BK236; clear HB; have HO243 := n0; have BK236 := n1; have HB := n2; clear n0 n1 n2; clear hb ho21) | ((with_reducible refine gate_builtin (b := .append) (xs := #[.tmp 31, .tmp 32]) rfl ?_); at_builtin; refine Kd.R_append_rows (Kd.int .i64) (w0 := w) w.heap.size rfl (.tmp 31) (.tmp 32) 31 3 (.int .i64 0) 8 rfl Try.underlying31 info3 rfl (by decide) (by omega) v242 y241 l1 _ _ _ (fun _ => True) (fun _ => False) rfl rfl ?aO ?aR (fun _ _ h => h) (fun _ h => h.elim) ?aF ?aB ?aS ?aL ?_; (case aR => repeat (first | exact (Kd.C_below HR1.out HB.out) | (with_reducible refine Kd.C_alloc ?_ _) | (with_reducible refine Kd.C_drewN ?_ _) | (with_reducible refine Kd.C_drew ?_))); (case aB => exact (gB_ HB.out)); (case aF => exact (fun _ _ => trivial)); (case aO => exact (by (with_reducible repeat (first | apply rA_ | apply rN_ | apply rD_)); exact HO243.out)); (case aS => exact (below_size (gB_ HB.out))); (case aL => have := LMc11.out; omega); intro v245 w22 ho hb hg hat; rw [← Ny244.out] at ho; have n0 := aM_ (blk_grown (g := gb236) (o := .cells #[.slice (some ad237) l0_0.length c0_0] 24 (0, 0)) (by (with_reducible repeat (first | refine bN_ ?_ _ | refine bD_ ?_ | refine bA_ ?_ _)); exact BK236.out) hg (Kd.R_ne HO243.out BK236.out (by decide))); have n1 := aM_ (hb); have n2 := aM_ (ho); clear BK236; clear HB; clear HO243; have BK236 := n0; have HB := n1; have HO246 := n2; clear n0 n1 n2; clear ho hb hg hat; have p13 : 0 ≤ (a2 : Int) := of_decide_eq_true (by first | (with_reducible assumption) | assumption); have q13 : (a2 : Int) < ((y244.length : Int) : Int) := of_decide_eq_true (by first | (with_reducible assumption) | assumption); obtain ⟨go13, co13, eo13, gb13, gl13, cl13, HG13⟩ := Kd.R_form HO246.out (by omega); (first | cases eo13 | (injection eo13 with ea_ en_ ec_; (first | subst ea_ | (injection ea_ with ea_; subst ea_)); subst ec_; clear en_)); have GB13 := aM_ gb13; have GG13 := aM_ HG13; clear gb13 gl13 HG13; obtain ⟨hx13_0, hf13_0⟩ := Kd.R_celln 0 HO246.out (a2 : Int) p13 q13; replace p13 := eq_true p13; replace q13 := eq_true q13; obtain ⟨hy23_, hz23_⟩ := Kd.R_celln 0 HO246.out (a2 : Int) (of_decide_eq_true (by first | (with_reducible assumption) | assumption)) (of_decide_eq_true (by first | (with_reducible assumption) | assumption)); have HP23 := Kd.R_putg HO246.out (a2 : Int) t240) | ((with_reducible refine gate_store (t := 3) (p := 37) rfl ?_); (try (rw [drewN_self w22]; generalize hq_ : World.drewN w22 _ = w22; have n0 := aM_ (Kd.R_at hq_ HO246.out); have n1 := aM_ (blk_at hq_ BK236.out); have n2 := aM_ (below_at hq_ HB.out); clear hq_ HO246 BK236 HB; have HO246 := n0; have BK236 := n1; have HB := n2; clear n0 n1 n2; (try (obtain ⟨hy23_, hz23_⟩ := Kd.R_celln 0 HO246.out (a2 : Int) (of_decide_eq_true (by first | (with_reducible assumption) | assumption)) (of_decide_eq_true (by first | (with_reducible assumption) | assumption)))); (try (have HP23 := Kd.R_putg HO246.out (a2 : Int) t240)))); refine store_event (t := 3) (p := 37) (v := ?vo_w24) (w1 := (w22.setCell ⟨go13, (a2 : Int).toNat, none⟩ (.int .i64 t240))) ?hg ?ho ?hn ?hr ?_; (case ho => rfl); (case hg => rfl); (case hn => rfl); (case hr => first | (go_simp; done) | (go_simp; rfl)); intro w24 hw; have hg : w22.grownBy w24 (some go13) := (by rw [hw]; exact HP23.2); have hp_ : Kd.R (Kd.int .i64) 3 w24 w.heap.size (fun _ => True) (.slice (some ⟨go13, 0, none⟩) y244.length co13) y247 := (by rw [hw, Ny247.out]; exact HP23.1); clear HP23; have n0 := aM_ (blk_grown (g := gb236) (o := .cells #[.slice (some ad237) l0_0.length c0_0] 24 (0, 0)) (by (with_reducible repeat (first | refine bN_ ?_ _ | refine bD_ ?_ | refine bA_ ?_ _)); exact BK236.out) hg (Kd.R_ne HO246.out BK236.out (by decide))); have n1 := aM_ (hp_); have n2 := aM_ ((by rw [hw]; exact below_set (HB.out) GB13.out : Below w.heap.size w w24)); clear BK236; clear HO246; clear HB; have BK236 := n0; have HO246 := n1; have HB := n2; clear n0 n1 n2; clear hg hw hp_; have p248 : 0 ≤ (t240 : Int) := of_decide_eq_true (by first | (with_reducible assumption) | assumption); have q248 : t240 < ((rd_L3 l0_0 a2).length : Int) := of_decide_eq_true (by first | (with_reducible assumption) | assumption); obtain ⟨ad248, A248_1, c248_1, e248, hx248_0, hx248_1, hl248_1, hi248_1⟩ := at_T43 HR237_0.out t240 p248 q248; cases e248; replace hx248_0 := cB_ HB.out hx248_0; replace hx248_1 := cB_ HB.out hx248_1; have HR248_1 := aM_ hi248_1; have HC248_1 := aM_ hl248_1; clear hi248_1 hl248_1; replace p248 := eq_true p248; replace q248 := eq_true q248) | (go_at_call 96; refine calls_of_args (args' := #[.slice (some ⟨go13, 0, none⟩) y247.length co13, .slice A248_1 ((rd_T43 (rd_L3 l0_0 a2) t240).f1).length c248_1]) (by first | (rw [show y247.length = y244.length from (Kd.R_reads' HO246.out).1.symm] <;> rfl) | rfl) ?_; (with_reducible refine (spec_Join.calls k _ _ y247 _ _ ((rd_T43 (rd_L3 l0_0 a2) t240).f1) t249 _ ?side1 ?side2 ?side3 ?side4 A17.out).mono ?_); (case side1 => exact cS_ (Kd.R_reads' HO246.out).2.2); (case side2 => rw [show y247.length = y244.length from (Kd.R_reads' HO246.out).1.symm]; exact (Kd.R_reads' HO246.out).2.1); (case side3 => exact cS_ (Kd.C_below HR248_1.out HB.out)); (case side4 => exact HC248_1.out); rintro e w25 ⟨v250, rfl, ho0, hb⟩; have n0 := aM_ (Kd.R_elder' (by (with_reducible repeat (first | apply rA_ | apply rN_ | apply rD_)); exact HO246.out) (Kd.R_base ho0) hb); have n1 := aM_ (Kd.R_lower (Kd.R_new' ho0 (Kd.R_lt (by (with_reducible repeat (first | apply rA_ | apply rN_ | apply rD_)); exact HO246.out))) (below_size (gB_ HB.out))); have n2 := aM_ (nB_ BK236.out hb); have n3 := aM_ (sT_ HB.out hb); clear HO246; clear BK236; clear HB; have HO246 := n0; have HO251 := n1; have BK236 := n2; have HB := n3; clear n0 n1 n2 n3; (try clear ho0); have p252 : 0 ≤ (t240 : Int) := of_decide_eq_true (by first | (with_reducible assumption) | assumption); have q252 : t240 < ((rd_L3 l0_0 a2).length : Int) := of_decide_eq_true (by first | (with_reducible assumption) | assumption); obtain ⟨ad252, A252_1, c252_1, e252, hx252_0, hx252_1, hl252_1, hi252_1⟩ := at_T43 HR237_0.out t240 p252 q252; obtain rfl : ad248 = ad252 := (by injection e252); replace hx252_0 := cB_ HB.out hx252_0; replace hx252_1 := cB_ HB.out hx252_1; have HR252_1 := aM_ hi252_1; have HC252_1 := aM_ hl252_1; clear hi252_1 hl252_1; replace p252 := eq_true p252; replace q252 := eq_true q252)); try go_wp2_with (first | ((with_reducible refine gate_dst (N := 5) rfl ?_); refine bX_ 5 (cs := #[.slice A0_0 l0_0.length c0_0]) (t := 24) ?_; intro gb236 hg w18 hbox hb; have n0 := aM_ (sT_ HB.out hb); have n1 := aM_ (hbox); have n2 := aM_ (sZ_ hg HB.out); have n3 := aM_ (sZ_ hg HB.out); clear HB; have HB := n0; have BK236 := n1; have GW236 := n2; have GE236 := n3; clear n0 n1 n2 n3; clear hb hbox hg; have hcz19_0 : w18.cell? ⟨gb236, 0, none⟩ = some (.slice A0_0 l0_0.length c0_0) := (blk_cell BK236.out 0).trans rfl; have hfz19_0 := blk_frozen BK236.out 0; have p237 : 0 ≤ (a2 : Int) := of_decide_eq_true (by first | (with_reducible assumption) | assumption); have q237 : a2 < (l0_0.length : Int) := of_decide_eq_true (by first | (with_reducible assumption) | assumption); obtain ⟨ad237, A237_0, c237_0, e237, hx237_0, hl237_0, hi237_0⟩ := at_L3 HR0_0.out a2 p237 q237; cases e237; replace hx237_0 := cB_ HB.out hx237_0; have HR237_0 := aM_ hi237_0; have HC237_0 := aM_ hl237_0; clear hi237_0 hl237_0; replace p237 := eq_true p237; replace q237 := eq_true q237) | (go_at_call 95; (with_reducible refine (spec_l1Max.calls a3 0 t238 _ A8.out).mono ?_); rintro e w' ⟨rfl, ⟨nd, rfl⟩⟩; (try first | exact ⟨rfl, _, World.drewN_drewN _ _ _⟩ | exact ⟨rfl, _, Eq.trans (World.drewN_drewN _ _ _) (congrArg (World.drewN _) (Nat.add_assoc _ _ _))⟩); have p239 : 0 ≤ (a2 : Int) := of_decide_eq_true (by first | (with_reducible assumption) | assumption); have q239 : a2 < (l1.length : Int) := of_decide_eq_true (by first | (with_reducible assumption) | assumption); obtain ⟨ad239, e239, hx239_0⟩ := Kd.at_int HR1.out a2 p239 q239; cases e239; replace hx239_0 := cB_ HB.out hx239_0; replace p239 := eq_true p239; replace q239 := eq_true q239) | (go_at_call 95; (with_reducible refine (spec_l1Max.calls (wrap64 ((wrap64 (((rd_L3 l0_0 a2).length : Int) - 1)) - t238)) (rd l1 a2) t240 _ A10.out).mono ?_); rintro e w' ⟨rfl, ⟨nd, rfl⟩⟩; (try first | exact ⟨rfl, _, World.drewN_drewN _ _ _⟩ | exact ⟨rfl, _, Eq.trans (World.drewN_drewN _ _ _) (congrArg (World.drewN _) (Nat.add_assoc _ _ _))⟩)) | ((with_reducible refine gate_dst (N := 31) rfl ?_); refine Kd.R_lit (Kd.int .i64) _ 3 ?hg (N := 31) ?hd (xs := ([] : List Int)) (inner := []) (ok := fun _ => True) (okp := fun _ => True) ?hr ?hp (fun _ hk => hk) trivial (Below.refl _ _) (Nat.le_refl _) (by simp) ?_; (case hd => rfl); (case hg => rfl); (case hr => first | (go_simp; done) | (go_simp; rfl)); (case hp => exact (Reps.none _ _)); intro v242 w20 ho21 hb hg_ hnew_; clear hg_ hnew_; (first | rw [← Ny241.out] at ho21 | (simp only [Int.reduceToNat] at ho21; rw [← Ny241.out] at ho21)); have n0 := aM_ (Kd.R_lower ho21 (below_size (gB_ HB.out))); have n1 := aM_ (nB_ BK236.out hb); have n2 := aM_ (sT_ HB.out hb); clear BK236; clear HB; have HO243 := n0; have BK236 := n1; have HB := n2; clear n0 n1 n2; clear hb ho21) | ((with_reducible refine gate_builtin (b := .append) (xs := #[.tmp 31, .tmp 32]) rfl ?_); at_builtin; refine Kd.R_append_rows (Kd.int .i64) (w0 := w) w.heap.size rfl (.tmp 31) (.tmp 32) 31 3 (.int .i64 0) 8 rfl Try.underlying31 info3 rfl (by decide) (by omega) v242 y241 l1 _ _ _ (fun _ => True) (fun _ => False) rfl rfl ?aO ?aR (fun _ _ h => h) (fun _ h => h.elim) ?aF ?aB ?aS ?aL ?_; (case aR => repeat (first | exact (Kd.C_below HR1.out HB.out) | (with_reducible refine Kd.C_alloc ?_ _) | (with_reducible refine Kd.C_drewN ?_ _) | (with_reducible refine Kd.C_drew ?_))); (case aB => exact (gB_ HB.out)); (case aF => exact (fun _ _ => trivial)); (case aO => exact (by (with_reducible repeat (first | apply rA_ | apply rN_ | apply rD_)); exact HO243.out)); (case aS => exact (below_size (gB_ HB.out))); (case aL => have := LMc11.out; omega); intro v245 w22 ho hb hg hat; rw [← Ny244.out] at ho; have n0 := aM_ (blk_grown (g := gb236) (o := .cells #[.slice (some ad237) l0_0.length c0_0] 24 (0, 0)) (by (with_reducible repeat (first | refine bN_ ?_ _ | refine bD_ ?_ | refine bA_ ?_ _)); exact BK236.out) hg (Kd.R_ne HO243.out BK236.out (by decide))); have n1 := aM_ (hb); have n2 := aM_ (ho); clear BK236; clear HB; clear HO243; have BK236 := n0; have HB := n1; have HO246 := n2; clear n0 n1 n2; clear ho hb hg hat; have p13 : 0 ≤ (a2 : Int) := of_decide_eq_true (by first | (with_reducible assumption) | assumption); have q13 : (a2 : Int) < ((y244.length : Int) : Int) := of_decide_eq_true (by first | (with_reducible assumption) | assumption); obtain ⟨go13, co13, eo13, gb13, gl13, cl13, HG13⟩ := Kd.R_form HO246.out (by omega); (first | cases eo13 | (injection eo13 with ea_ en_ ec_; (first | subst ea_ | (injection ea_ with ea_; subst ea_)); subst ec_; clear en_)); have GB13 := aM_ gb13; have GG13 := aM_ HG13; clear gb13 gl13 HG13; obtain ⟨hx13_0, hf13_0⟩ := Kd.R_celln 0 HO246.out (a2 : Int) p13 q13; replace p13 := eq_true p13; replace q13 := eq_true q13; obtain ⟨hy23_, hz23_⟩ := Kd.R_celln 0 HO246.out (a2 : Int) (of_decide_eq_true (by first | (with_reducible assumption) | assumption)) (of_decide_eq_true (by first | (with_reducible assumption) | assumption)); have HP23 := Kd.R_putg HO246.out (a2 : Int) t240) | ((with_reducible refine gate_store (t := 3) (p := 37) rfl ?_); (try (rw [drewN_self w22]; generalize hq_ : World.drewN w22 _ = w22; have n0 := aM_ (Kd.R_at hq_ HO246.out); have n1 := aM_ (blk_at hq_ BK236.out); have n2 := aM_ (below_at hq_ HB.out); clear hq_ HO246 BK236 HB; have HO246 := n0; have BK236 := n1; have HB := n2; clear n0 n1 n2; (try (obtain ⟨hy23_, hz23_⟩ := Kd.R_celln 0 HO246.out (a2 : Int) (of_decide_eq_true (by first | (with_reducible assumption) | assumption)) (of_decide_eq_true (by first | (with_reducible assumption) | assumption)))); (try (have HP23 := Kd.R_putg HO246.out (a2 : Int) t240)))); refine store_event (t := 3) (p := 37) (v := ?vo_w24) (w1 := (w22.setCell ⟨go13, (a2 : Int).toNat, none⟩ (.int .i64 t240))) ?hg ?ho ?hn ?hr ?_; (case ho => rfl); (case hg => rfl); (case hn => rfl); (case hr => first | (go_simp; done) | (go_simp; rfl)); intro w24 hw; have hg : w22.grownBy w24 (some go13) := (by rw [hw]; exact HP23.2); have hp_ : Kd.R (Kd.int .i64) 3 w24 w.heap.size (fun _ => True) (.slice (some ⟨go13, 0, none⟩) y244.length co13) y247 := (by rw [hw, Ny247.out]; exact HP23.1); clear HP23; have n0 := aM_ (blk_grown (g := gb236) (o := .cells #[.slice (some ad237) l0_0.length c0_0] 24 (0, 0)) (by (with_reducible repeat (first | refine bN_ ?_ _ | refine bD_ ?_ | refine bA_ ?_ _)); exact BK236.out) hg (Kd.R_ne HO246.out BK236.out (by decide))); have n1 := aM_ (hp_); have n2 := aM_ ((by rw [hw]; exact below_set (HB.out) GB13.out : Below w.heap.size w w24)); clear BK236; clear HO246; clear HB; have BK236 := n0; have HO246 := n1; have HB := n2; clear n0 n1 n2; clear hg hw hp_; have p248 : 0 ≤ (t240 : Int) := of_decide_eq_true (by first | (with_reducible assumption) | assumption); have q248 : t240 < ((rd_L3 l0_0 a2).length : Int) := of_decide_eq_true (by first | (with_reducible assumption) | assumption); obtain ⟨ad248, A248_1, c248_1, e248, hx248_0, hx248_1, hl248_1, hi248_1⟩ := at_T43 HR237_0.out t240 p248 q248; cases e248; replace hx248_0 := cB_ HB.out hx248_0; replace hx248_1 := cB_ HB.out hx248_1; have HR248_1 := aM_ hi248_1; have HC248_1 := aM_ hl248_1; clear hi248_1 hl248_1; replace p248 := eq_true p248; replace q248 := eq_true q248) | (go_at_call 96; refine calls_of_args (args' := #[.slice (some ⟨go13, 0, none⟩) y247.length co13, .slice A248_1 ((rd_T43 (rd_L3 l0_0 a2) t240).f1).length c248_1]) (by first | (rw [show y247.length = y244.length from (Kd.R_reads' HO246.out).1.symm] <;> rfl) | rfl) ?_; (with_reducible refine (spec_Join.calls k _ _ y247 _ _ ((rd_T43 (rd_L3 l0_0 a2) t240).f1) t249 _ ?side1 ?side2 ?side3 ?side4 A17.out).mono ?_); (case side1 => exact cS_ (Kd.R_reads' HO246.out).2.2); (case side2 => rw [show y247.length = y244.length from (Kd.R_reads' HO246.out).1.symm]; exact (Kd.R_reads' HO246.out).2.1); (case side3 => exact cS_ (Kd.C_below HR248_1.out HB.out)); (case side4 => exact HC248_1.out); rintro e w25 ⟨v250, rfl, ho0, hb⟩; have n0 := aM_ (Kd.R_elder' (by (with_reducible repeat (first | apply rA_ | apply rN_ | apply rD_)); exact HO246.out) (Kd.R_base ho0) hb); have n1 := aM_ (Kd.R_lower (Kd.R_new' ho0 (Kd.R_lt (by (with_reducible repeat (first | apply rA_ | apply rN_ | apply rD_)); exact HO246.out))) (below_size (gB_ HB.out))); have n2 := aM_ (nB_ BK236.out hb); have n3 := aM_ (sT_ HB.out hb); clear HO246; clear BK236; clear HB; have HO246 := n0; have HO251 := n1; have BK236 := n2; have HB := n3; clear n0 n1 n2 n3; (try clear ho0); have p252 : 0 ≤ (t240 : Int) := of_decide_eq_true (by first | (with_reducible assumption) | assumption); have q252 : t240 < ((rd_L3 l0_0 a2).length : Int) := of_decide_eq_true (by first | (with_reducible assumption) | assumption); obtain ⟨ad252, A252_1, c252_1, e252, hx252_0, hx252_1, hl252_1, hi252_1⟩ := at_T43 HR237_0.out t240 p252 q252; obtain rfl : ad248 = ad252 := (by injection e252); replace hx252_0 := cB_ HB.out hx252_0; replace hx252_1 := cB_ HB.out hx252_1; have HR252_1 := aM_ hi252_1; have HC252_1 := aM_ hl252_1; clear hi252_1 hl252_1; replace p252 := eq_true p252; replace q252 := eq_true q252)))
         go_ret2
         exact ⟨_, fR_, by (with_reducible repeat (first | apply rA_ | apply rN_ | apply rD_)); exact Kd.R_mono HO251.out (fun _ hk => trivial), gB_ HB.out⟩
        ·rw [if_neg c16] at H
         exact absurd H (by simp)
       ·rw [if_neg c15] at H
        exact absurd H (by simp)
      ·replace c14 := Bool.eq_false_iff.mpr c14
       subst c14
       have H1 : (if 0 ≤ t240 then (if t240 < ((rd_L3 l0_0 a2).length : Int) then (some ((rd_T43 (rd_L3 l0_0 a2) t240).f0, y247)) else (none)) else (none)) = some (r1, r2) := by rw [if_neg (show ¬ (false = true) by decide)] at H; exact H
       clear H
       have H := H1
       clear H1
       by_cases c26 : 0 ≤ t240
       ·rw [if_pos c26] at H
        have c26b0 : decide (0 ≤ t240) = true := decide_eq_true c26
        clear c26
        by_cases c27 : t240 < ((rd_L3 l0_0 a2).length : Int)
        ·rw [if_pos c27] at H
         have c27b0 : decide (t240 < ((rd_L3 l0_0 a2).length : Int)) = true := decide_eq_true c27
         clear c27
         simp only [Option.some.injEq, Prod.mk.injEq] at H
         obtain ⟨rfl, rfl⟩ := H
         go_enter Try.func62, Try.ntmps62
         go_wp2_with (first | ((with_reducible refine gate_dst (N := 5) rfl ?_); refine bX_ 5 (cs := #[.slice A0_0 l0_0.length c0_0]) (t := 24) ?_; intro gb236 hg w28 hbox hb; have n0 := aM_ (sT_ HB.out hb); have n1 := aM_ (hbox); have n2 := aM_ (sZ_ hg HB.out); have n3 := aM_ (sZ_ hg HB.out); clear HB; have HB := n0; have BK236 := n1; have GW236 := n2; have GE236 := n3; clear n0 n1 n2 n3; clear hb hbox hg; have hcz29_0 : w28.cell? ⟨gb236, 0, none⟩ = some (.slice A0_0 l0_0.length c0_0) := (blk_cell BK236.out 0).trans rfl; have hfz29_0 := blk_frozen BK236.out 0; have p237 : 0 ≤ (a2 : Int) := of_decide_eq_true (by first | (with_reducible assumption) | assumption); have q237 : a2 < (l0_0.length : Int) := of_decide_eq_true (by first | (with_reducible assumption) | assumption); obtain ⟨ad237, A237_0, c237_0, e237, hx237_0, hl237_0, hi237_0⟩ := at_L3 HR0_0.out a2 p237 q237; cases e237; replace hx237_0 := cB_ HB.out hx237_0; have HR237_0 := aM_ hi237_0; have HC237_0 := aM_ hl237_0; clear hi237_0 hl237_0; replace p237 := eq_true p237; replace q237 := eq_true q237; have p239 : 0 ≤ (a2 : Int) := of_decide_eq_true (by first | (with_reducible assumption) | assumption); have q239 : a2 < (l1.length : Int) := of_decide_eq_true (by first | (with_reducible assumption) | assumption); obtain ⟨ad239, e239, hx239_0⟩ := Kd.at_int HR1.out a2 p239 q239; cases e239; replace hx239_0 := cB_ HB.out hx239_0; replace p239 := eq_true p239; replace q239 := eq_true q239) | (go_at_call 95; (with_reducible refine (spec_l1Max.calls a3 0 t238 _ A8.out).mono ?_); rintro e w' ⟨rfl, ⟨nd, rfl⟩⟩; (try first | exact ⟨rfl, _, World.drewN_drewN _ _ _⟩ | exact ⟨rfl, _, Eq.trans (World.drewN_drewN _ _ _) (congrArg (World.drewN _) (Nat.add_assoc _ _ _))⟩)) | (go_at_call 95; (with_reducible refine (spec_l1Max.calls (wrap64 ((wrap64 (((rd_L3 l0_0 a2).length : Int) - 1)) - t238)) (rd l1 a2) t240 _ A10.out).mono ?_); rintro e w' ⟨rfl, ⟨nd, rfl⟩⟩; (try first | exact ⟨rfl, _, World.drewN_drewN _ _ _⟩ | exact ⟨rfl, _, Eq.trans (World.drewN_drewN _ _ _) (congrArg (World.drewN _) (Nat.add_assoc _ _ _))⟩)) | ((with_reducible refine gate_dst (N := 31) rfl ?_); refine Kd.R_lit (Kd.int .i64) _ 3 ?hg (N := 31) ?hd (xs := ([] : List Int)) (inner := []) (ok := fun _ => True) (okp := fun _ => True) ?hr ?hp (fun _ hk => hk) trivial (Below.refl _ _) (Nat.le_refl _) (by simp) ?_; (case hd => rfl); (case hg => rfl); (case hr => first | (go_simp; done) | (go_simp; rfl)); (case hp => exact (Reps.none _ _)); intro v242 w30 ho31 hb hg_ hnew_; clear hg_ hnew_; (first | rw [← Ny241.out] at ho31 | (simp only [Int.reduceToNat] at ho31; rw [← Ny241.out] at ho31)); have n0 := aM_ (Kd.R_lower ho31 (below_size (gB_ HB.out))); have n1 := aM_ (nB_ BK236.out hb); have n2 := aM_ (sT_ HB.out hb); clear BK236; clear HB; have HO243 := n0; have BK236 := n1; have HB := n2; clear n0 n1 n2; clear hb ho31) | ((with_reducible refine gate_builtin (b := .append) (xs := #[.tmp 31, .tmp 32]) rfl ?_); at_builtin; refine Kd.R_append_rows (Kd.int .i64) (w0 := w) w.heap.size rfl (.tmp 31) (.tmp 32) 31 3 (.int .i64 0) 8 rfl Try.underlying31 info3 rfl (by decide) (by omega) v242 y241 l1 _ _ _ (fun _ => True) (fun _ => False) rfl rfl ?aO ?aR (fun _ _ h => h) (fun _ h => h.elim) ?aF ?aB ?aS ?aL ?_; (case aR => repeat (first | exact (Kd.C_below HR1.out HB.out) | (with_reducible refine Kd.C_alloc ?_ _) | (with_reducible refine Kd.C_drewN ?_ _) | (with_reducible refine Kd.C_drew ?_))); (case aB => exact (gB_ HB.out)); (case aF => exact (fun _ _ => trivial)); (case aO => exact (by (with_reducible repeat (first | apply rA_ | apply rN_ | apply rD_)); exact HO243.out)); (case aS => exact (below_size (gB_ HB.out))); (case aL => have := LMc11.out; omega); intro v245 w32 ho hb hg hat; rw [← Ny244.out] at ho; have n0 := aM_ (blk_grown (g := gb236) (o := .cells #[.slice (some ad237) l0_0.length c0_0] 24 (0, 0)) (by (with_reducible repeat (first | refine bN_ ?_ _ | refine bD_ ?_ | refine bA_ ?_ _)); exact BK236.out) hg (Kd.R_ne HO243.out BK236.out (by decide))); have n1 := aM_ (hb); have n2 := aM_ (ho); clear BK236; clear HB; clear HO243; have BK236 := n0; have HB := n1; have HO246 := n2; clear n0 n1 n2; clear ho hb hg hat; have p13 : 0 ≤ (a2 : Int) := of_decide_eq_true (by first | (with_reducible assumption) | assumption); have q13 : (a2 : Int) < ((y244.length : Int) : Int) := of_decide_eq_true (by first | (with_reducible assumption) | assumption); obtain ⟨go13, co13, eo13, gb13, gl13, cl13, HG13⟩ := Kd.R_form HO246.out (by omega); (first | cases eo13 | (injection eo13 with ea_ en_ ec_; (first | subst ea_ | (injection ea_ with ea_; subst ea_)); subst ec_; clear en_)); have GB13 := aM_ gb13; have GG13 := aM_ HG13; clear gb13 gl13 HG13; obtain ⟨hx13_0, hf13_0⟩ := Kd.R_celln 0 HO246.out (a2 : Int) p13 q13; replace p13 := eq_true p13; replace q13 := eq_true q13; obtain ⟨hy33_, hz33_⟩ := Kd.R_celln 0 HO246.out (a2 : Int) (of_decide_eq_true (by first | (with_reducible assumption) | assumption)) (of_decide_eq_true (by first | (with_reducible assumption) | assumption)); have HP33 := Kd.R_putg HO246.out (a2 : Int) t240) | ((with_reducible refine gate_store (t := 3) (p := 37) rfl ?_); (try (rw [drewN_self w32]; generalize hq_ : World.drewN w32 _ = w32; have n0 := aM_ (Kd.R_at hq_ HO246.out); have n1 := aM_ (blk_at hq_ BK236.out); have n2 := aM_ (below_at hq_ HB.out); clear hq_ HO246 BK236 HB; have HO246 := n0; have BK236 := n1; have HB := n2; clear n0 n1 n2; (try (obtain ⟨hy33_, hz33_⟩ := Kd.R_celln 0 HO246.out (a2 : Int) (of_decide_eq_true (by first | (with_reducible assumption) | assumption)) (of_decide_eq_true (by first | (with_reducible assumption) | assumption)))); (try (have HP33 := Kd.R_putg HO246.out (a2 : Int) t240)))); refine store_event (t := 3) (p := 37) (v := ?vo_w34) (w1 := (w32.setCell ⟨go13, (a2 : Int).toNat, none⟩ (.int .i64 t240))) ?hg ?ho ?hn ?hr ?_; (case ho => rfl); (case hg => rfl); (case hn => rfl); (case hr => first | (go_simp; done) | (go_simp; rfl)); intro w34 hw; have hg : w32.grownBy w34 (some go13) := (by rw [hw]; exact HP33.2); have hp_ : Kd.R (Kd.int .i64) 3 w34 w.heap.size (fun _ => True) (.slice (some ⟨go13, 0, none⟩) y244.length co13) y247 := (by rw [hw, Ny247.out]; exact HP33.1); clear HP33; have n0 := aM_ (blk_grown (g := gb236) (o := .cells #[.slice (some ad237) l0_0.length c0_0] 24 (0, 0)) (by (with_reducible repeat (first | refine bN_ ?_ _ | refine bD_ ?_ | refine bA_ ?_ _)); exact BK236.out) hg (Kd.R_ne HO246.out BK236.out (by decide))); have n1 := aM_ (hp_); have n2 := aM_ ((by rw [hw]; exact below_set (HB.out) GB13.out : Below w.heap.size w w34)); clear BK236; clear HO246; clear HB; have BK236 := n0; have HO246 := n1; have HB := n2; clear n0 n1 n2; clear hg hw hp_; have p253 : 0 ≤ (t240 : Int) := of_decide_eq_true (by first | (with_reducible assumption) | assumption); have q253 : t240 < ((rd_L3 l0_0 a2).length : Int) := of_decide_eq_true (by first | (with_reducible assumption) | assumption); obtain ⟨ad253, A253_1, c253_1, e253, hx253_0, hx253_1, hl253_1, hi253_1⟩ := at_T43 HR237_0.out t240 p253 q253; cases e253; replace hx253_0 := cB_ HB.out hx253_0; replace hx253_1 := cB_ HB.out hx253_1; have HR253_1 := aM_ hi253_1; have HC253_1 := aM_ hl253_1; clear hi253_1 hl253_1; replace p253 := eq_true p253; replace q253 := eq_true q253))
         repeat (go_quiet (first | ((with_reducible refine gate_dst (N := 5) rfl ?_); refine bX_ 5 (cs := #[.slice A0_0 l0_0.length c0_0]) (t := 24) ?_; intro gb236 hg w28 hbox hb; have n0 := aM_ (sT_ HB.out hb); have n1 := aM_ (hbox); have n2 := aM_ (sZ_ hg HB.out); have n3 := aM_ (sZ_ hg HB.out); clear HB; have HB := n0; have BK236 := n1; have GW236 := n2; have GE236 := n3; clear n0 n1 n2 n3; clear hb hbox hg; have hcz29_0 : w28.cell? ⟨gb236, 0, none⟩ = some (.slice A0_0 l0_0.length c0_0) := (blk_cell BK236.out 0).trans rfl; have hfz29_0 := blk_frozen BK236.out 0; have p237 : 0 ≤ (a2 : Int) := of_decide_eq_true (by first | (with_reducible assumption) | assumption); have q237 : a2 < (l0_0.length : Int) := of_decide_eq_true (by first | (with_reducible assumption) | assumption); obtain ⟨ad237, A237_0, c237_0, e237, hx237_0, hl237_0, hi237_0⟩ := at_L3 HR0_0.out a2 p237 q237; cases e237; replace hx237_0 := cB_ HB.out hx237_0; have HR237_0 := aM_ hi237_0; have HC237_0 := aM_ hl237_0; clear hi237_0 hl237_0; replace p237 := eq_true p237; replace q237 := eq_true q237; have p239 : 0 ≤ (a2 : Int) := of_decide_eq_true (by first | (with_reducible assumption) | assumption); have q239 : a2 < (l1.length : Int) := of_decide_eq_true (by first | (with_reducible assumption) | assumption); obtain ⟨ad239, e239, hx239_0⟩ := Kd.at_int HR1.out a2 p239 q239; cases e239; replace hx239_0 := cB_ HB.out hx239_0; replace p239 := eq_true p239; replace q239 := eq_true q239) | (go_at_call 95; (with_reducible refine (spec_l1Max.calls a3 0 t238 _ A8.out).mono ?_); rintro e w' ⟨rfl, ⟨nd, rfl⟩⟩; (try first | exact ⟨rfl, _, World.drewN_drewN _ _ _⟩ | exact ⟨rfl, _, Eq.trans (World.drewN_drewN _ _ _) (congrArg (World.drewN _) (Nat.add_assoc _ _ _))⟩)) | (go_at_call 95; (with_reducible refine (spec_l1Max.calls (wrap64 ((wrap64 (((rd_L3 l0_0 a2).length : Int) - 1)) - t238)) (rd l1 a2) t240 _ A10.out).mono ?_); rintro e w' ⟨rfl, ⟨nd, rfl⟩⟩; (try first | exact ⟨rfl, _, World.drewN_drewN _ _ _⟩ | exact ⟨rfl, _, Eq.trans (World.drewN_drewN _ _ _) (congrArg (World.drewN _) (Nat.add_assoc _ _ _))⟩)) | ((with_reducible refine gate_dst (N := 31) rfl ?_); refine Kd.R_lit (Kd.int .i64) _ 3 ?hg (N := 31) ?hd (xs := ([] : List Int)) (inner := []) (ok := fun _ => True) (okp := fun _ => True) ?hr ?hp (fun _ hk => hk) trivial (Below.refl _ _) (Nat.le_refl _) (by simp) ?_; (case hd => rfl); (case hg => rfl); (case hr => first | (go_simp; done) | (go_simp; rfl)); (case hp => exact (Reps.none _ _)); intro v242 w30 ho31 hb hg_ hnew_; clear hg_ hnew_; (first | rw [← Ny241.out] at ho31 | (simp only [Int.reduceToNat] at ho31; rw [← Ny241.out] at ho31)); have n0 := aM_ (Kd.R_lower ho31 (below_size (gB_ HB.out))); have n1 := aM_ (nB_ BK236.out hb); have n2 := aM_ (sT_ HB.out hb); clear BK236; clear HB; have HO243 := n0; have BK236 := n1; have HB := n2; clear n0 n1 n2; clear hb ho31) | ((with_reducible refine gate_builtin (b := .append) (xs := #[.tmp 31, .tmp 32]) rfl ?_); at_builtin; refine Kd.R_append_rows (Kd.int .i64) (w0 := w) w.heap.size rfl (.tmp 31) (.tmp 32) 31 3 (.int .i64 0) 8 rfl Try.underlying31 info3 rfl (by decide) (by omega) v242 y241 l1 _ _ _ (fun _ => True) (fun _ => False) rfl rfl ?aO ?aR (fun _ _ h => h) (fun _ h => h.elim) ?aF ?aB ?aS ?aL ?_; (case aR => repeat (first | exact (Kd.C_below HR1.out HB.out) | (with_reducible refine Kd.C_alloc ?_ _) | (with_reducible refine Kd.C_drewN ?_ _) | (with_reducible refine Kd.C_drew ?_))); (case aB => exact (gB_ HB.out)); (case aF => exact (fun _ _ => trivial)); (case aO => exact (by (with_reducible repeat (first | apply rA_ | apply rN_ | apply rD_)); exact HO243.out)); (case aS => exact (below_size (gB_ HB.out))); (case aL => have := LMc11.out; omega); intro v245 w32 ho hb hg hat; rw [← Ny244.out] at ho; have n0 := aM_ (blk_grown (g := gb236) (o := .cells #[.slice (some ad237) l0_0.length c0_0] 24 (0, 0)) (by (with_reducible repeat (first | refine bN_ ?_ _ | refine bD_ ?_ | refine bA_ ?_ _)); exact BK236.out) hg (Kd.R_ne HO243.out BK236.out (by decide))); have n1 := aM_ (hb); have n2 := aM_ (ho); clear BK236; clear HB; clear HO243; have BK236 := n0; have HB := n1; have HO246 := n2; clear n0 n1 n2; clear ho hb hg hat; have p13 : 0 ≤ (a2 : Int) := of_decide_eq_true (by first | (with_reducible assumption) | assumption); have q13 : (a2 : Int) < ((y244.length : Int) : Int) := of_decide_eq_true (by first | (with_reducible assumption) | assumption); obtain ⟨go13, co13, eo13, gb13, gl13, cl13, HG13⟩ := Kd.R_form HO246.out (by omega); (first | cases eo13 | (injection eo13 with ea_ en_ ec_; (first | subst ea_ | (injection ea_ with ea_; subst ea_)); subst ec_; clear en_)); have GB13 := aM_ gb13; have GG13 := aM_ HG13; clear gb13 gl13 HG13; obtain ⟨hx13_0, hf13_0⟩ := Kd.R_celln 0 HO246.out (a2 : Int) p13 q13; replace p13 := eq_true p13; replace q13 := eq_true q13; obtain ⟨hy33_, hz33_⟩ := Kd.R_celln 0 HO246.out (a2 : Int) (of_decide_eq_true (by first | (with_reducible assumption) | assumption)) (of_decide_eq_true (by first | (with_reducible assumption) | assumption)); have HP33 := Kd.R_putg HO246.out (a2 : Int) t240) | ((with_reducible refine gate_store (t := 3) (p := 37) rfl ?_); (try (rw [drewN_self w32]; generalize hq_ : World.drewN w32 _ = w32; have n0 := aM_ (Kd.R_at hq_ HO246.out); have n1 := aM_ (blk_at hq_ BK236.out); have n2 := aM_ (below_at hq_ HB.out); clear hq_ HO246 BK236 HB; have HO246 := n0; have BK236 := n1; have HB := n2; clear n0 n1 n2; (try (obtain ⟨hy33_, hz33_⟩ := Kd.R_celln 0 HO246.out (a2 : Int) (of_decide_eq_true (by first | (with_reducible assumption) | assumption)) (of_decide_eq_true (by first | (with_reducible assumption) | assumption)))); (try (have HP33 := Kd.R_putg HO246.out (a2 : Int) t240)))); refine store_event (t := 3) (p := 37) (v := ?vo_w34) (w1 := (w32.setCell ⟨go13, (a2 : Int).toNat, none⟩ (.int .i64 t240))) ?hg ?ho ?hn ?hr ?_; (case ho => rfl); (case hg => rfl); (case hn => rfl); (case hr => first | (go_simp; done) | (go_simp; rfl)); intro w34 hw; have hg : w32.grownBy w34 (some go13) := (by rw [hw]; exact HP33.2); have hp_ : Kd.R (Kd.int .i64) 3 w34 w.heap.size (fun _ => True) (.slice (some ⟨go13, 0, none⟩) y244.length co13) y247 := (by rw [hw, Ny247.out]; exact HP33.1); clear HP33; have n0 := aM_ (blk_grown (g := gb236) (o := .cells #[.slice (some ad237) l0_0.length c0_0] 24 (0, 0)) (by (with_reducible repeat (first | refine bN_ ?_ _ | refine bD_ ?_ | refine bA_ ?_ _)); exact BK236.out) hg (Kd.R_ne HO246.out BK236.out (by decide))); have n1 := aM_ (hp_); have n2 := aM_ ((by rw [hw]; exact below_set (HB.out) GB13.out : Below w.heap.size w w34)); clear BK236; clear HO246; clear HB; have BK236 := n0; have HO246 := n1; have HB := n2; clear n0 n1 n2; clear hg hw hp_; have p253 : 0 ≤ (t240 : Int) := of_decide_eq_true (by first | (with_reducible assumption) | assumption); have q253 : t240 < ((rd_L3 l0_0 a2).length : Int) := of_decide_eq_true (by first | (with_reducible assumption) | assumption); obtain ⟨ad253, A253_1, c253_1, e253, hx253_0, hx253_1, hl253_1, hi253_1⟩ := at_T43 HR237_0.out t240 p253 q253; cases e253; replace hx253_0 := cB_ HB.out hx253_0; replace hx253_1 := cB_ HB.out hx253_1; have HR253_1 := aM_ hi253_1; have HC253_1 := aM_ hl253_1; clear hi253_1 hl253_1; replace p253 := eq_true p253; replace q253 := eq_true q253)); try go_wp2_with (first | ((with_reducible refine gate_dst (N := 5) rfl ?_); refine bX_ 5 (cs := #[.slice A0_0 l0_0.length c0_0]) (t := 24) ?_; intro gb236 hg w28 hbox hb; have n0 := aM_ (sT_ HB.out hb); have n1 := aM_ (hbox); have n2 := aM_ (sZ_ hg HB.out); have n3 := aM_ (sZ_ hg HB.out); clear HB; have HB := n0; have BK236 := n1; have GW236 := n2; have GE236 := n3; clear n0 n1 n2 n3; clear hb hbox hg; have hcz29_0 : w28.cell? ⟨gb236, 0, none⟩ = some (.slice A0_0 l0_0.length c0_0) := (blk_cell BK236.out 0).trans rfl; have hfz29_0 := blk_frozen BK236.out 0; have p237 : 0 ≤ (a2 : Int) := of_decide_eq_true (by first | (with_reducible assumption) | assumption); have q237 : a2 < (l0_0.length : Int) := of_decide_eq_true (by first | (with_reducible assumption) | assumption); obtain ⟨ad237, A237_0, c237_0, e237, hx237_0, hl237_0, hi237_0⟩ := at_L3 HR0_0.out a2 p237 q237; cases e237; replace hx237_0 := cB_ HB.out hx237_0; have HR237_0 := aM_ hi237_0; have HC237_0 := aM_ hl237_0; clear hi237_0 hl237_0; replace p237 := eq_true p237; replace q237 := eq_true q237) | (go_at_call 95; (with_reducible refine (spec_l1Max.calls a3 0 t238 _ A8.out).mono ?_); rintro e w' ⟨rfl, ⟨nd, rfl⟩⟩; (try first | exact ⟨rfl, _, World.drewN_drewN _ _ _⟩ | exact ⟨rfl, _, Eq.trans (World.drewN_drewN _ _ _) (congrArg (World.drewN _) (Nat.add_assoc _ _ _))⟩); have p239 : 0 ≤ (a2 : Int) := of_decide_eq_true (by first | (with_reducible assumption) | assumption); have q239 : a2 < (l1.length : Int) := of_decide_eq_true (by first | (with_reducible assumption) | assumption); obtain ⟨ad239, e239, hx239_0⟩ := Kd.at_int HR1.out a2 p239 q239; cases e239; replace hx239_0 := cB_ HB.out hx239_0; replace p239 := eq_true p239; replace q239 := eq_true q239) | (go_at_call 95; (with_reducible refine (spec_l1Max.calls (wrap64 ((wrap64 (((rd_L3 l0_0 a2).length : Int) - 1)) - t238)) (rd l1 a2) t240 _ A10.out).mono ?_); rintro e w' ⟨rfl, ⟨nd, rfl⟩⟩; (try first | exact ⟨rfl, _, World.drewN_drewN _ _ _⟩ | exact ⟨rfl, _, Eq.trans (World.drewN_drewN _ _ _) (congrArg (World.drewN _) (Nat.add_assoc _ _ _))⟩)) | ((with_reducible refine gate_dst (N := 31) rfl ?_); refine Kd.R_lit (Kd.int .i64) _ 3 ?hg (N := 31) ?hd (xs := ([] : List Int)) (inner := []) (ok := fun _ => True) (okp := fun _ => True) ?hr ?hp (fun _ hk => hk) trivial (Below.refl _ _) (Nat.le_refl _) (by simp) ?_; (case hd => rfl); (case hg => rfl); (case hr => first | (go_simp; done) | (go_simp; rfl)); (case hp => exact (Reps.none _ _)); intro v242 w30 ho31 hb hg_ hnew_; clear hg_ hnew_; (first | rw [← Ny241.out] at ho31 | (simp only [Int.reduceToNat] at ho31; rw [← Ny241.out] at ho31)); have n0 := aM_ (Kd.R_lower ho31 (below_size (gB_ HB.out))); have n1 := aM_ (nB_ BK236.out hb); have n2 := aM_ (sT_ HB.out hb); clear BK236; clear HB; have HO243 := n0; have BK236 := n1; have HB := n2; clear n0 n1 n2; clear hb ho31) | ((with_reducible refine gate_builtin (b := .append) (xs := #[.tmp 31, .tmp 32]) rfl ?_); at_builtin; refine Kd.R_append_rows (Kd.int .i64) (w0 := w) w.heap.size rfl (.tmp 31) (.tmp 32) 31 3 (.int .i64 0) 8 rfl Try.underlying31 info3 rfl (by decide) (by omega) v242 y241 l1 _ _ _ (fun _ => True) (fun _ => False) rfl rfl ?aO ?aR (fun _ _ h => h) (fun _ h => h.elim) ?aF ?aB ?aS ?aL ?_; (case aR => repeat (first | exact (Kd.C_below HR1.out HB.out) | (with_reducible refine Kd.C_alloc ?_ _) | (with_reducible refine Kd.C_drewN ?_ _) | (with_reducible refine Kd.C_drew ?_))); (case aB => exact (gB_ HB.out)); (case aF => exact (fun _ _ => trivial)); (case aO => exact (by (with_reducible repeat (first | apply rA_ | apply rN_ | apply rD_)); exact HO243.out)); (case aS => exact (below_size (gB_ HB.out))); (case aL => have := LMc11.out; omega); intro v245 w32 ho hb hg hat; rw [← Ny244.out] at ho; have n0 := aM_ (blk_grown (g := gb236) (o := .cells #[.slice (some ad237) l0_0.length c0_0] 24 (0, 0)) (by (with_reducible repeat (first | refine bN_ ?_ _ | refine bD_ ?_ | refine bA_ ?_ _)); exact BK236.out) hg (Kd.R_ne HO243.out BK236.out (by decide))); have n1 := aM_ (hb); have n2 := aM_ (ho); clear BK236; clear HB; clear HO243; have BK236 := n0; have HB := n1; have HO246 := n2; clear n0 n1 n2; clear ho hb hg hat; have p13 : 0 ≤ (a2 : Int) := of_decide_eq_true (by first | (with_reducible assumption) | assumption); have q13 : (a2 : Int) < ((y244.length : Int) : Int) := of_decide_eq_true (by first | (with_reducible assumption) | assumption); obtain ⟨go13, co13, eo13, gb13, gl13, cl13, HG13⟩ := Kd.R_form HO246.out (by omega); (first | cases eo13 | (injection eo13 with ea_ en_ ec_; (first | subst ea_ | (injection ea_ with ea_; subst ea_)); subst ec_; clear en_)); have GB13 := aM_ gb13; have GG13 := aM_ HG13; clear gb13 gl13 HG13; obtain ⟨hx13_0, hf13_0⟩ := Kd.R_celln 0 HO246.out (a2 : Int) p13 q13; replace p13 := eq_true p13; replace q13 := eq_true q13; obtain ⟨hy33_, hz33_⟩ := Kd.R_celln 0 HO246.out (a2 : Int) (of_decide_eq_true (by first | (with_reducible assumption) | assumption)) (of_decide_eq_true (by first | (with_reducible assumption) | assumption)); have HP33 := Kd.R_putg HO246.out (a2 : Int) t240) | ((with_reducible refine gate_store (t := 3) (p := 37) rfl ?_); (try (rw [drewN_self w32]; generalize hq_ : World.drewN w32 _ = w32; have n0 := aM_ (Kd.R_at hq_ HO246.out); have n1 := aM_ (blk_at hq_ BK236.out); have n2 := aM_ (below_at hq_ HB.out); clear hq_ HO246 BK236 HB; have HO246 := n0; have BK236 := n1; have HB := n2; clear n0 n1 n2; (try (obtain ⟨hy33_, hz33_⟩ := Kd.R_celln 0 HO246.out (a2 : Int) (of_decide_eq_true (by first | (with_reducible assumption) | assumption)) (of_decide_eq_true (by first | (with_reducible assumption) | assumption)))); (try (have HP33 := Kd.R_putg HO246.out (a2 : Int) t240)))); refine store_event (t := 3) (p := 37) (v := ?vo_w34) (w1 := (w32.setCell ⟨go13, (a2 : Int).toNat, none⟩ (.int .i64 t240))) ?hg ?ho ?hn ?hr ?_; (case ho => rfl); (case hg => rfl); (case hn => rfl); (case hr => first | (go_simp; done) | (go_simp; rfl)); intro w34 hw; have hg : w32.grownBy w34 (some go13) := (by rw [hw]; exact HP33.2); have hp_ : Kd.R (Kd.int .i64) 3 w34 w.heap.size (fun _ => True) (.slice (some ⟨go13, 0, none⟩) y244.length co13) y247 := (by rw [hw, Ny247.out]; exact HP33.1); clear HP33; have n0 := aM_ (blk_grown (g := gb236) (o := .cells #[.slice (some ad237) l0_0.length c0_0] 24 (0, 0)) (by (with_reducible repeat (first | refine bN_ ?_ _ | refine bD_ ?_ | refine bA_ ?_ _)); exact BK236.out) hg (Kd.R_ne HO246.out BK236.out (by decide))); have n1 := aM_ (hp_); have n2 := aM_ ((by rw [hw]; exact below_set (HB.out) GB13.out : Below w.heap.size w w34)); clear BK236; clear HO246; clear HB; have BK236 := n0; have HO246 := n1; have HB := n2; clear n0 n1 n2; clear hg hw hp_; have p253 : 0 ≤ (t240 : Int) := of_decide_eq_true (by first | (with_reducible assumption) | assumption); have q253 : t240 < ((rd_L3 l0_0 a2).length : Int) := of_decide_eq_true (by first | (with_reducible assumption) | assumption); obtain ⟨ad253, A253_1, c253_1, e253, hx253_0, hx253_1, hl253_1, hi253_1⟩ := at_T43 HR237_0.out t240 p253 q253; cases e253; replace hx253_0 := cB_ HB.out hx253_0; replace hx253_1 := cB_ HB.out hx253_1; have HR253_1 := aM_ hi253_1; have HC253_1 := aM_ hl253_1; clear hi253_1 hl253_1; replace p253 := eq_true p253; replace q253 := eq_true q253)))
         go_ret2
         exact ⟨_, fR_, by (with_reducible repeat (first | apply rA_ | apply rN_ | apply rD_)); exact HO246.out, gB_ HB.out⟩
        ·rw [if_neg c27] at H
         exact absurd H (by simp)
       ·rw [if_neg c26] at H
        exact absurd H (by simp)
     ·rw [if_neg c12] at H
      exact absurd H (by simp)
    ·rw [if_neg c11] at H
     exact absurd H (by simp)
   ·rw [if_neg c9] at H
    exact absurd H (by simp)
  ·rw [if_neg c7] at H
   exact absurd H (by simp)
 ·rw [if_neg c6] at H
  exact absurd H (by simp)
def spec_Load.f (k : Nat) (l0_0 : List (List (S43))) (l1 : List Int) (a2 : Int) (a3 : Int) (a4 : Bool) : Option (Int × List Int) := (spec_l6Right.f k l0_0 l1 a2).bind fun t255 => (if t255 = true then ((spec_l6Load.f k l0_0 l1 a2 a3 a4).bind fun bt256 => (some (bt256.1, bt256.2))) else ((some (([] : List Int) : List Int)).bind fun y260 => (if y260.length + l1.length < 17592186044416 then (some (0, (y260 ++ l1))) else (none))))
set_option maxHeartbeats 8000000 in
set_option maxRecDepth 100000 in
theorem spec_Load.calls (k : Nat) (A0_0 : Option Addr) (c0_0 : Nat) (l0_0 : List (List (S43))) (A1 : Option Addr) (c1 : Nat) (l1 : List Int) (a2 : Int) (a3 : Int) (a4 : Bool) (r1 : Int) (r2 : List Int) (w : World) (hr0_0 : Kd.C (Kd.slice 43 k43) w A0_0 l0_0.length l0_0) (hc0_0 : l0_0.length ≤ c0_0) (hr1 : Kd.C (Kd.int .i64) w A1 l1.length l1) (hc1 : l1.length ≤ c1) (h : spec_Load.f k l0_0 l1 a2 a3 a4 = some (r1, r2)) :
  Calls Try.prog 22 #[.agg #[.slice A0_0 l0_0.length c0_0], .slice A1 l1.length c1, .int .i64 a2, .int .i64 a3, .bool a4] w fun e w' => ∃ v1_ : Value, e = .returned (.tuple #[.int .i64 r1, v1_]) ∧ Kd.R (Kd.int .i64) 3 w' w.heap.size (fun _ => True) v1_ r2 ∧ Below w.heap.size w w' := by
 have hu24 := Try.underlying24
 have HR0_0 := aM_ hr0_0
 have HC0_0 := aM_ hc0_0
 clear hr0_0 hc0_0
 have HR1 := aM_ hr1
 have HC1 := aM_ hc1
 clear hr1 hc1
 have HB := aM_ (Below.refl w.heap.size w)
 have H : ((spec_l6Right.f k l0_0 l1 a2).bind fun t255 => (if t255 = true then ((spec_l6Load.f k l0_0 l1 a2 a3 a4).bind fun bt256 => (some (bt256.1, bt256.2))) else ((some (([] : List Int) : List Int)).bind fun y260 => (if y260.length + l1.length < 17592186044416 then (some (0, (y260 ++ l1))) else (none))))) = some (r1, r2) := h
 clear h
 replace H := Option.bind_eq_some_iff.mp H
 obtain ⟨t255, A60, H⟩ := H
 replace H : (if t255 = true then ((spec_l6Load.f k l0_0 l1 a2 a3 a4).bind fun bt256 => (some (bt256.1, bt256.2))) else ((some (([] : List Int) : List Int)).bind fun y260 => (if y260.length + l1.length < 17592186044416 then (some (0, (y260 ++ l1))) else (none)))) = some (r1, r2) := H
 have A6 := aM_ A60
 clear A60
 by_cases c7 : t255 = true
 ·subst c7
  have H1 : ((spec_l6Load.f k l0_0 l1 a2 a3 a4).bind fun bt256 => (some (bt256.1, bt256.2))) = some (r1, r2) := by rw [if_pos rfl] at H; exact H
  clear H
  have H := H1
  clear H1
  replace H := Option.bind_eq_some_iff.mp H
  obtain ⟨⟨t256, t257⟩, A80, H⟩ := H
  replace H : (some (t256, t257)) = some (r1, r2) := H
  have A8 := aM_ A80
  clear A80
  simp only [Option.some.injEq, Prod.mk.injEq] at H
  obtain ⟨rfl, rfl⟩ := H
  go_enter Try.func22, Try.ntmps22
  go_wp2_with (first | ((with_reducible refine gate_dst (N := 5) rfl ?_); refine bX_ 5 (cs := #[.slice A0_0 l0_0.length c0_0]) (t := 24) ?_; intro gb254 hg w9 hbox hb; have n0 := aM_ (sT_ HB.out hb); have n1 := aM_ (hbox); have n2 := aM_ (sZ_ hg HB.out); have n3 := aM_ (sZ_ hg HB.out); clear HB; have HB := n0; have BK254 := n1; have GW254 := n2; have GE254 := n3; clear n0 n1 n2 n3; clear hb hbox hg; have hcz10_0 : w9.cell? ⟨gb254, 0, none⟩ = some (.slice A0_0 l0_0.length c0_0) := (blk_cell BK254.out 0).trans rfl; have hfz10_0 := blk_frozen BK254.out 0) | ((with_reducible refine gate_callee (f := 61) rfl ?_); refine gL_ (some 17) Try.func61 #[.agg #[.slice A0_0 l0_0.length c0_0], .slice A1 l1.length c1, .int .i64 a2] ?_; (with_reducible refine (spec_l6Right.calls k _ _ l0_0 _ _ l1 a2 true _ ?side1 ?side2 ?side3 ?side4 A6.out).mono ?_); (case side1 => exact cS_ (Kd.C_below HR0_0.out HB.out)); (case side2 => exact HC0_0.out); (case side3 => exact cS_ (Kd.C_below HR1.out HB.out)); (case side4 => exact HC1.out); rintro e w11 ⟨rfl, hb⟩; refine ⟨_, rfl, ?_⟩; have n0 := aM_ (nB_ BK254.out hb); have n1 := aM_ (sT_ HB.out hb); clear BK254; clear HB; have BK254 := n0; have HB := n1; clear n0 n1; have hcz12_0 : w11.cell? ⟨gb254, 0, none⟩ = some (.slice A0_0 l0_0.length c0_0) := (blk_cell BK254.out 0).trans rfl; have hfz12_0 := blk_frozen BK254.out 0) | ((with_reducible refine gate_callee (f := 62) rfl ?_); refine gL_ (some 28) Try.func62 #[.agg #[.slice A0_0 l0_0.length c0_0], .slice A1 l1.length c1, .int .i64 a2, .int .i64 a3, .bool a4] ?_; (with_reducible refine (spec_l6Load.calls k _ _ l0_0 _ _ l1 a2 a3 a4 t256 t257 _ ?side1 ?side2 ?side3 ?side4 A8.out).mono ?_); (case side1 => exact cS_ (Kd.C_below HR0_0.out HB.out)); (case side2 => exact HC0_0.out); (case side3 => exact cS_ (Kd.C_below HR1.out HB.out)); (case side4 => exact HC1.out); rintro e w13 ⟨v258, rfl, ho0, hb⟩; refine ⟨_, rfl, ?_⟩; have n0 := aM_ (Kd.R_lower ho0 (below_size (gB_ HB.out))); have n1 := aM_ (nB_ BK254.out hb); have n2 := aM_ (sT_ HB.out hb); clear BK254; clear HB; have HO259 := n0; have BK254 := n1; have HB := n2; clear n0 n1 n2; (try clear ho0)))
  go_ret2
  exact ⟨_, fR_, by (with_reducible repeat (first | apply rA_ | apply rN_ | apply rD_)); exact HO259.out, gB_ HB.out⟩
 ·replace c7 := Bool.eq_false_iff.mpr c7
  subst c7
  have H1 : ((some (([] : List Int) : List Int)).bind fun y260 => (if y260.length + l1.length < 17592186044416 then (some (0, (y260 ++ l1))) else (none))) = some (r1, r2) := by rw [if_neg (show ¬ (false = true) by decide)] at H; exact H
  clear H
  have H := H1
  clear H1
  obtain ⟨y260, hy260⟩ : ∃ y_ : List Int, y_ = (([] : List Int)) := ⟨_, rfl⟩
  replace H : (if y260.length + l1.length < 17592186044416 then (some (0, (y260 ++ l1))) else (none)) = some (r1, r2) := by first | (rw [hy260]; with_reducible exact H) | (have H2_ := (Option.bind_some _ _).symm.trans H; rw [hy260]; with_reducible exact H2_) | (have H2_ := (Option.bind_some _ _).symm.trans H; with_reducible exact H2_) | with_reducible exact H | (rw [hy260]; exact H) | exact H
  have Ny260 := aM_ hy260
  clear hy260
  by_cases c14 : y260.length + l1.length < 17592186044416
  ·rw [if_pos c14] at H
   have LMc14 := aM_ c14
   clear c14
   obtain ⟨y263, hy263⟩ : ∃ y_ : List Int, y_ = (y260 ++ l1) := ⟨_, rfl⟩
   replace H : (some (0, y263)) = some (r1, r2) := by first | (rw [hy263]; with_reducible exact H) | (have H2_ := (Option.bind_some _ _).symm.trans H; rw [hy263]; with_reducible exact H2_) | (have H2_ := (Option.bind_some _ _).symm.trans H; with_reducible exact H2_) | with_reducible exact H | (rw [hy263]; exact H) | exact H
   have Ny263 := aM_ hy263
   clear hy263
   simp only [Option.some.injEq, Prod.mk.injEq] at H
   obtain ⟨rfl, rfl⟩ := H
   go_enter Try.func22, Try.ntmps22
   go_wp2_with (first | ((with_reducible refine gate_dst (N := 5) rfl ?_); refine bX_ 5 (cs := #[.slice A0_0 l0_0.length c0_0]) (t := 24) ?_; intro gb254 hg w15 hbox hb; have n0 := aM_ (sT_ HB.out hb); have n1 := aM_ (hbox); have n2 := aM_ (sZ_ hg HB.out); have n3 := aM_ (sZ_ hg HB.out); clear HB; have HB := n0; have BK254 := n1; have GW254 := n2; have GE254 := n3; clear n0 n1 n2 n3; clear hb hbox hg; have hcz16_0 : w15.cell? ⟨gb254, 0, none⟩ = some (.slice A0_0 l0_0.length c0_0) := (blk_cell BK254.out 0).trans rfl; have hfz16_0 := blk_frozen BK254.out 0) | ((with_reducible refine gate_callee (f := 61) rfl ?_); refine gL_ (some 17) Try.func61 #[.agg #[.slice A0_0 l0_0.length c0_0], .slice A1 l1.length c1, .int .i64 a2] ?_; (with_reducible refine (spec_l6Right.calls k _ _ l0_0 _ _ l1 a2 false _ ?side1 ?side2 ?side3 ?side4 A6.out).mono ?_); (case side1 => exact cS_ (Kd.C_below HR0_0.out HB.out)); (case side2 => exact HC0_0.out); (case side3 => exact cS_ (Kd.C_below HR1.out HB.out)); (case side4 => exact HC1.out); rintro e w17 ⟨rfl, hb⟩; refine ⟨_, rfl, ?_⟩; have n0 := aM_ (nB_ BK254.out hb); have n1 := aM_ (sT_ HB.out hb); clear BK254; clear HB; have BK254 := n0; have HB := n1; clear n0 n1) | ((with_reducible refine gate_dst (N := 19) rfl ?_); refine Kd.R_lit (Kd.int .i64) _ 3 ?hg (N := 19) ?hd (xs := ([] : List Int)) (inner := []) (ok := fun _ => True) (okp := fun _ => True) ?hr ?hp (fun _ hk => hk) trivial (Below.refl _ _) (Nat.le_refl _) (by simp) ?_; (case hd => rfl); (case hg => rfl); (case hr => first | (go_simp; done) | (go_simp; rfl)); (case hp => exact (Reps.none _ _)); intro v261 w18 ho19 hb hg_ hnew_; clear hg_ hnew_; (first | rw [← Ny260.out] at ho19 | (simp only [Int.reduceToNat] at ho19; rw [← Ny260.out] at ho19)); have n0 := aM_ (Kd.R_lower ho19 (below_size (gB_ HB.out))); have n1 := aM_ (nB_ BK254.out hb); have n2 := aM_ (sT_ HB.out hb); clear BK254; clear HB; have HO262 := n0; have BK254 := n1; have HB := n2; clear n0 n1 n2; clear hb ho19) | ((with_reducible refine gate_builtin (b := .append) (xs := #[.tmp 19, .tmp 20]) rfl ?_); at_builtin; refine Kd.R_append_rows (Kd.int .i64) (w0 := w) w.heap.size rfl (.tmp 19) (.tmp 20) 31 3 (.int .i64 0) 8 rfl Try.underlying31 info3 rfl (by decide) (by omega) v261 y260 l1 _ _ _ (fun _ => True) (fun _ => False) rfl rfl ?aO ?aR (fun _ _ h => h) (fun _ h => h.elim) ?aF ?aB ?aS ?aL ?_; (case aR => repeat (first | exact (Kd.C_below HR1.out HB.out) | (with_reducible refine Kd.C_alloc ?_ _) | (with_reducible refine Kd.C_drewN ?_ _) | (with_reducible refine Kd.C_drew ?_))); (case aB => exact (gB_ HB.out)); (case aF => exact (fun _ _ => trivial)); (case aO => exact (by (with_reducible repeat (first | apply rA_ | apply rN_ | apply rD_)); exact HO262.out)); (case aS => exact (below_size (gB_ HB.out))); (case aL => have := LMc14.out; omega); intro v264 w20 ho hb hg hat; rw [← Ny263.out] at ho; have n0 := aM_ (blk_grown (g := gb254) (o := .cells #[.slice A0_0 l0_0.length c0_0] 24 (0, 0)) (by (with_reducible repeat (first | refine bN_ ?_ _ | refine bD_ ?_ | refine bA_ ?_ _)); exact BK254.out) hg (Kd.R_ne HO262.out BK254.out (by decide))); have n1 := aM_ (hb); have n2 := aM_ (ho); clear BK254; clear HB; clear HO262; have BK254 := n0; have HB := n1; have HO265 := n2; clear n0 n1 n2; clear ho hb hg hat))
   go_ret2
   exact ⟨_, fR_, by (with_reducible repeat (first | apply rA_ | apply rN_ | apply rD_)); exact HO265.out, gB_ HB.out⟩
  ·rw [if_neg c14] at H
   exact absurd H (by simp)
def impl_Knows.l0 : Nat → List Int → List Int → Int → Int → Option (Bool)
  | 0, _, _, _, _ => none
  | k + 1, x0, x12, x13, x14 => if x14 < x13 then (if 0 ≤ x14 then (if x14 < (x12.length : Int) then (if x14 < (x0.length : Int) then (if (rd x0 x14) < (rd x12 x14) then (some false) else (impl_Knows.l0 k x0 x12 x13 (wrap64 (x14 + 1)))) else (none)) else (none)) else (none)) else (some true)
def impl_Knows.f (k : Nat) (l0 : List Int) (l1 : List Int) : Option (Bool) := if (l0.length : Int) = (l1.length : Int) then (impl_Knows.l0 k l0 l1 (l1.length : Int) 0) else (some false)
set_option maxHeartbeats 8000000 in
set_option maxRecDepth 100000 in
theorem impl_Knows.calls (k : Nat) (A0 : Option Addr) (c0 : Nat) (l0 : List Int) (A1 : Option Addr) (c1 : Nat) (l1 : List Int) (r : Bool) (w : World) (hr0 : Kd.C (Kd.int .i64) w A0 l0.length l0) (hc0 : l0.length ≤ c0) (hr1 : Kd.C (Kd.int .i64) w A1 l1.length l1) (hc1 : l1.length ≤ c1) (h : impl_Knows.f k l0 l1 = some r) :
  Calls Try.prog 23 #[.slice A0 l0.length c0, .slice A1 l1.length c1] w fun e w' => e = .returned (.bool r) ∧ Drawn0 w w' := by
 have HR0 := aM_ hr0
 have HC0 := aM_ hc0
 clear hr0 hc0
 have HR1 := aM_ hr1
 have HC1 := aM_ hc1
 clear hr1 hc1
 have H : (if (l0.length : Int) = (l1.length : Int) then (impl_Knows.l0 k l0 l1 (l1.length : Int) 0) else (some false)) = some r := h
 clear h
 by_cases c3 : (l0.length : Int) = (l1.length : Int)
 ·rw [if_pos c3] at H
  have c3b0 : ((l0.length : Int) == (l1.length : Int)) = true := beq_iff_eq.mpr c3
  have c3b1 : ((l0.length : Int) != (l1.length : Int)) = false := bne_eq_false_iff_eq.mpr c3
  have c3b2 : (l0.length == l1.length) = true := by first | simpa using c3 | (simp at c3 ⊢; omega)
  clear c3
  have H' := aM_ H
  clear H
  go_enter Try.func23, Try.ntmps23
  go_wp2
  go_loopg [14] k (fun kq v14 w' => ∃ (x14_1 : Int), v14 = .int .i64 x14_1 ∧ Aside0 (impl_Knows.l0 kq l0 l1 (l1.length : Int) x14_1 = some r) ∧ Aside0 (kq ≤ k) ∧ Drawn0 w w')
  case atStart => exact ⟨(0), (by first | rfl | (simp; done) | (simp [*]; done)), H', ⟨Nat.le_refl _⟩, by repeat (first | exact Drawn0.refl _ | apply Drawn0.step)⟩
  case round =>
   clear H'
   try clear c1
   try clear c2
   try clear p2
   try clear c3
   try clear c3b0
   try clear c3b1
   try clear c3b2
   obtain ⟨x14_1, rfl, HA, HK1, ⟨m1, rfl⟩⟩ := hrel
   cases gk with
   | zero => exact absurd HA.out (by simp [impl_Knows.l0])
   | succ k1 =>
    have H := HA.out
    clear HA
    simp only [impl_Knows.l0] at H
    by_cases c4 : x14_1 < (l1.length : Int)
    ·rw [if_pos c4] at H
     have c4b0 : decide (x14_1 < (l1.length : Int)) = true := decide_eq_true c4
     clear c4
     by_cases c5 : 0 ≤ x14_1
     ·rw [if_pos c5] at H
      have c5b0 : decide (0 ≤ x14_1) = true := decide_eq_true c5
      clear c5
      by_cases c6 : x14_1 < (l1.length : Int)
      ·rw [if_pos c6] at H
       have c6b0 : decide (x14_1 < (l1.length : Int)) = true := decide_eq_true c6
       clear c6
       by_cases c7 : x14_1 < (l0.length : Int)
       ·rw [if_pos c7] at H
        have c7b0 : decide (x14_1 < (l0.length : Int)) = true := decide_eq_true c7
        clear c7
        by_cases c8 : (rd l0 x14_1) < (rd l1 x14_1)
        ·rw [if_pos c8] at H
         have c8b0 : decide ((rd l0 x14_1) < (rd l1 x14_1)) = true := decide_eq_true c8
         clear c8
         obtain rfl := Option.some.inj H
         have p266 : 0 ≤ (x14_1 : Int) := of_decide_eq_true (by first | (with_reducible assumption) | assumption)
         have q266 : x14_1 < (l1.length : Int) := of_decide_eq_true (by first | (with_reducible assumption) | assumption)
         obtain ⟨ad266, e266, hx266_0⟩ := Kd.at_int HR1.out x14_1 p266 q266
         cases e266
         replace p266 := eq_true p266
         replace q266 := eq_true q266
         have p267 : 0 ≤ (x14_1 : Int) := of_decide_eq_true (by first | (with_reducible assumption) | assumption)
         have q267 : x14_1 < (l0.length : Int) := of_decide_eq_true (by first | (with_reducible assumption) | assumption)
         obtain ⟨ad267, e267, hx267_0⟩ := Kd.at_int HR0.out x14_1 p267 q267
         cases e267
         replace p267 := eq_true p267
         replace q267 := eq_true q267
         go_wp2
         go_ret
         exact ⟨by first | rfl | (simp; done) | (simp [*]; done), by repeat (first | exact Drawn0.refl _ | apply Drawn0.step)⟩
        ·rw [if_neg c8] at H
         have c8b0 : decide ((rd l0 x14_1) < (rd l1 x14_1)) = false := decide_eq_false c8
         clear c8
         have H' := aM_ H
         clear H
         have p266 : 0 ≤ (x14_1 : Int) := of_decide_eq_true (by first | (with_reducible assumption) | assumption)
         have q266 : x14_1 < (l1.length : Int) := of_decide_eq_true (by first | (with_reducible assumption) | assumption)
         obtain ⟨ad266, e266, hx266_0⟩ := Kd.at_int HR1.out x14_1 p266 q266
         cases e266
         replace p266 := eq_true p266
         replace q266 := eq_true q266
         have p267 : 0 ≤ (x14_1 : Int) := of_decide_eq_true (by first | (with_reducible assumption) | assumption)
         have q267 : x14_1 < (l0.length : Int) := of_decide_eq_true (by first | (with_reducible assumption) | assumption)
         obtain ⟨ad267, e267, hx267_0⟩ := Kd.at_int HR0.out x14_1 p267 q267
         cases e267
         replace p267 := eq_true p267
         replace q267 := eq_true q267
         go_wp2
         go_roundg k1
         case measure => have := HK1.out; omega
         case rel => exact ⟨(wrap64 (x14_1 + 1)), (by first | rfl | (simp; done) | (simp [*]; done)), H', ⟨by have := HK1.out; omega⟩, by repeat (first | exact Drawn0.refl _ | apply Drawn0.step)⟩
       ·rw [if_neg c7] at H
        exact absurd H (by simp)
      ·rw [if_neg c6] at H
       exact absurd H (by simp)
     ·rw [if_neg c5] at H
      exact absurd H (by simp)
    ·rw [if_neg c4] at H
     have c4b0 : decide (x14_1 < (l1.length : Int)) = false := decide_eq_false c4
     clear c4
     obtain rfl := Option.some.inj H
     go_wp2
     go_ret
     exact ⟨by first | rfl | (simp; done) | (simp [*]; done), by repeat (first | exact Drawn0.refl _ | apply Drawn0.step)⟩
 ·rw [if_neg c3] at H
  have c3b0 : ((l0.length : Int) == (l1.length : Int)) = false := beq_eq_false_iff_ne.mpr c3
  have c3b1 : ((l0.length : Int) != (l1.length : Int)) = true := bne_iff_ne.mpr c3
  have c3b2 : (l0.length == l1.length) = false := by first | simpa using c3 | (simp at c3 ⊢; omega)
  obtain rfl := Option.some.inj H
  go_enter Try.func23, Try.ntmps23
  go_wp2
  go_ret
  exact ⟨by first | rfl | (simp; done) | (simp [*]; done), by repeat (first | exact Drawn0.refl _ | apply Drawn0.step)⟩
end Go.Proofs.Ythbcnakmnbilhaa.PFnMessage
