/- A part of the proof that the law FnExactLoad holds for every input: the words, functions and walks that its row needs, without a condition of their own. -/
import Derived.Test.YthbcnakmnbilhaaProg
import Derived.Laws.StructEq
import Derived.Test.YthbcnakmnbilhaaZFnExactLoada0
import Derived.Test.YthbcnakmnbilhaaZFnExactLoada1
import Derived.Test.YthbcnakmnbilhaaZFnExactLoada2
import Derived.Test.YthbcnakmnbilhaaZFnExactLoada3
import Derived.Test.YthbcnakmnbilhaaZFnExactLoada5
import Derived.Test.YthbcnakmnbilhaaZFnExactLoada7
import Derived.Test.YthbcnakmnbilhaaZFnExactLoads
namespace Go.Proofs.Ythbcnakmnbilhaa.PFnExactLoad
open Go.RowKit Go.Proofs.YthbcnakmnbilhaaW.PrintWords Go.Proofs.YthbcnakmnbilhaaW.PrintLast Go.Proofs.YthbcnakmnbilhaaW.PrintMore
attribute [local go_sem] max2_int min2_int max_two min_two max_three min_three max_four min_four   -- for this text's walks alone
set_option linter.unusedVariables false
set_option linter.unusedSimpArgs false
def laws_toIntS.l0 : Nat → List Int → List Int → Int → Option (List Int)
  | 0, _, _, _ => none
  | k + 1, x0, x3, x4 => if x4 < (x0.length : Int) then (if 0 ≤ x4 then (if x4 < (x3.length : Int) then (laws_toIntS.l0 k x0 (x3.set (x4 : Int).toNat (rd x0 x4)) (wrap64 (x4 + 1))) else (none)) else (none)) else (some x3)
def laws_toIntS.f (k : Nat) (l0 : List Int) : Option (List Int) := if 0 ≤ (l0.length : Int) then (if ((l0.length : Int) : Int).toNat ≤ 35184372088832 then (laws_toIntS.l0 k l0 (List.replicate ((l0.length : Int) : Int).toNat 0) 0) else (none)) else (none)
set_option maxHeartbeats 8000000 in
set_option maxRecDepth 100000 in
theorem laws_toIntS.calls (k : Nat) (A0 : Option Addr) (c0 : Nat) (l0 : List Int) (r : List Int) (w : World) (hr0 : Kd.C (Kd.int .i64) w A0 l0.length l0) (hc0 : l0.length ≤ c0) (h : laws_toIntS.f k l0 = some r) :
  Calls Try.prog 32 #[.slice A0 l0.length c0] w fun e w' => ∃ v0_ : Value, e = .returned (v0_) ∧ Kd.R (Kd.int .i64) 3 w' w.heap.size (fun _ => True) v0_ r ∧ Below w.heap.size w w' := by
 have HR0 := aM_ hr0
 have HC0 := aM_ hc0
 clear hr0 hc0
 have HB := aM_ (Below.refl w.heap.size w)
 have H : (if 0 ≤ (l0.length : Int) then (if ((l0.length : Int) : Int).toNat ≤ 35184372088832 then (laws_toIntS.l0 k l0 (List.replicate ((l0.length : Int) : Int).toNat 0) 0) else (none)) else (none)) = some r := h
 clear h
 by_cases c2 : 0 ≤ (l0.length : Int)
 ·rw [if_pos c2] at H
  have c2b0 := eq_true c2
  have c2b1 : decide (0 ≤ (l0.length : Int)) = true := decide_eq_true c2
  clear c2
  by_cases c3 : ((l0.length : Int) : Int).toNat ≤ 35184372088832
  ·rw [if_pos c3] at H
   have c3b0 := eq_true c3
   have c3b1 : decide (((l0.length : Int) : Int).toNat ≤ 35184372088832) = true := decide_eq_true c3
   clear c3
   obtain ⟨y234, hy234⟩ : ∃ y_ : List Int, y_ = (List.replicate ((l0.length : Int) : Int).toNat 0) := ⟨_, rfl⟩
   replace H : (laws_toIntS.l0 k l0 y234 0) = some r := by first | (rw [hy234]; with_reducible exact H) | (have H2_ := (Option.bind_some _ _).symm.trans H; rw [hy234]; with_reducible exact H2_) | (have H2_ := (Option.bind_some _ _).symm.trans H; with_reducible exact H2_) | with_reducible exact H | (rw [hy234]; exact H) | exact H
   have Ny234 := aM_ hy234
   clear hy234
   have H' := aM_ H
   clear H
   go_enter Try.func32, Try.ntmps32
   go_wp2_with (first | ((with_reducible refine gate_dst (N := 7) rfl ?_); refine Kd.R_make (Kd.int .i64) _ 3 rfl (N := 7) rfl 31 _ _ rfl (l0.length : Int) rfl rfl Try.underlying31 (.int .i64 0) 8 info3 rfl (by decide) (by omega) 0 (ok := fun _ => True) (okp := fun _ => True) rfl (fun _ hk => hk) trivial (of_decide_eq_true (by first | (with_reducible assumption) | assumption)) (Nat.le_trans (Nat.mul_le_mul_right _ (of_decide_eq_true (by first | (with_reducible assumption) | assumption) : (l0.length : Int).toNat ≤ 35184372088832)) (by omega)) (Below.refl _ _) (Nat.le_refl _) ?_; intro v235 w4 ho5 hb hg_ hnew_; clear hg_ hnew_; (first | rw [← Ny234.out] at ho5 | (simp only [Int.reduceToNat] at ho5; rw [← Ny234.out] at ho5)); have n0 := aM_ (Kd.R_lower ho5 (below_size (gB_ HB.out))); have n1 := aM_ (sT_ HB.out hb); clear HB; have HO236 := n0; have HB := n1; clear n0 n1; clear hb ho5))
   go_loopg [4] k (fun kq v4 w' => ∃ (x3_1 : List Int) (x4_1 : Int), v4 = .int .i64 x4_1 ∧ Aside0 (laws_toIntS.l0 kq l0 x3_1 x4_1 = some r) ∧ Aside0 (kq ≤ k) ∧ Aside0 (Kd.R (Kd.int .i64) 3 w' w.heap.size (fun _ => True) v235 x3_1) ∧ Aside0 (Below w.heap.size w w'))
   case atStart => exact ⟨(y234), (0), (by first | rfl | (simp; done) | (simp [*]; done)), H', ⟨Nat.le_refl _⟩, ⟨by (with_reducible repeat (first | apply rA_ | apply rN_ | apply rD_)); exact HO236.out⟩, ⟨gW_ HB.out⟩⟩
   case round =>
    clear H'
    try clear c2
    try clear c2b0
    try clear c2b1
    try clear p2
    try clear c3
    try clear c3b0
    try clear c3b1
    obtain ⟨x3_1, x4_1, rfl, HA, HK1, HO_3, HB⟩ := hrel
    cases gk with
    | zero => exact absurd HA.out (by simp [laws_toIntS.l0])
    | succ k1 =>
     have H := HA.out
     clear HA
     simp only [laws_toIntS.l0] at H
     by_cases c6 : x4_1 < (l0.length : Int)
     ·rw [if_pos c6] at H
      have c6b0 : decide (x4_1 < (l0.length : Int)) = true := decide_eq_true c6
      clear c6
      by_cases c7 : 0 ≤ x4_1
      ·rw [if_pos c7] at H
       have c7b0 : decide (0 ≤ x4_1) = true := decide_eq_true c7
       clear c7
       by_cases c8 : x4_1 < (x3_1.length : Int)
       ·rw [if_pos c8] at H
        have c8b0 : decide (x4_1 < (x3_1.length : Int)) = true := decide_eq_true c8
        clear c8
        obtain ⟨y238, hy238⟩ : ∃ y_ : List Int, y_ = (x3_1.set (x4_1 : Int).toNat (rd l0 x4_1)) := ⟨_, rfl⟩
        replace H : (laws_toIntS.l0 k1 l0 y238 (wrap64 (x4_1 + 1))) = some r := by first | (rw [hy238]; with_reducible exact H) | (have H2_ := (Option.bind_some _ _).symm.trans H; rw [hy238]; with_reducible exact H2_) | (have H2_ := (Option.bind_some _ _).symm.trans H; with_reducible exact H2_) | with_reducible exact H | (rw [hy238]; exact H) | exact H
        have Ny238 := aM_ hy238
        clear hy238
        have H' := aM_ H
        clear H
        have p237 : 0 ≤ (x4_1 : Int) := of_decide_eq_true (by first | (with_reducible assumption) | assumption)
        have q237 : x4_1 < (l0.length : Int) := of_decide_eq_true (by first | (with_reducible assumption) | assumption)
        obtain ⟨ad237, e237, hx237_0⟩ := Kd.at_int HR0.out x4_1 p237 q237
        cases e237
        replace hx237_0 := cB_ HB.out hx237_0
        replace p237 := eq_true p237
        replace q237 := eq_true q237
        have p9 : 0 ≤ (x4_1 : Int) := of_decide_eq_true (by first | (with_reducible assumption) | assumption)
        have q9 : (x4_1 : Int) < ((x3_1.length : Int) : Int) := of_decide_eq_true (by first | (with_reducible assumption) | assumption)
        obtain ⟨go9, co9, eo9, gb9, gl9, cl9, HG9⟩ := Kd.R_form HO_3.out (by omega)
        (first | cases eo9 | (injection eo9 with ea_ en_ ec_; (first | subst ea_ | (injection ea_ with ea_; subst ea_)); subst ec_; clear en_))
        have GB9 := aM_ gb9
        have GG9 := aM_ HG9
        clear gb9 gl9 HG9
        obtain ⟨hx9_0, hf9_0⟩ := Kd.R_celln 0 HO_3.out (x4_1 : Int) p9 q9
        replace p9 := eq_true p9
        replace q9 := eq_true q9
        have HP10 := Kd.R_putg HO_3.out (x4_1 : Int) (rd l0 x4_1)
        go_wp2_with (first | ((with_reducible refine gate_store (t := 3) (p := 20) rfl ?_); refine store_event (t := 3) (p := 20) (v := ?vo_w11) (w1 := (wr.setCell ⟨go9, (x4_1 : Int).toNat, none⟩ (.int .i64 (rd l0 x4_1)))) ?hg ?ho ?hn ?hr ?_; (case ho => rfl); (case hg => rfl); (case hn => rfl); (case hr => first | (go_simp; done) | (go_simp; rfl)); intro w11 hw; have hg : wr.grownBy w11 (some go9) := (by rw [hw]; exact HP10.2); have hp_ : Kd.R (Kd.int .i64) 3 w11 w.heap.size (fun _ => True) (.slice (some ⟨go9, 0, none⟩) x3_1.length co9) y238 := (by rw [hw, Ny238.out]; exact HP10.1); clear HP10; have n0 := aM_ (hp_); have n1 := aM_ ((by rw [hw]; exact below_set (HB.out) GB9.out : Below w.heap.size w w11)); clear HO_3; clear HB; have HO_3 := n0; have HB := n1; clear n0 n1; clear hg hw hp_))
        go_roundg k1
        case measure => have := HK1.out; omega
        case rel => exact ⟨(y238), (wrap64 (x4_1 + 1)), (by first | rfl | (simp; done) | (simp [*]; done)), H', ⟨by have := HK1.out; omega⟩, ⟨by (with_reducible repeat (first | apply rA_ | apply rN_ | apply rD_)); exact HO_3.out⟩, ⟨gW_ HB.out⟩⟩
       ·rw [if_neg c8] at H
        exact absurd H (by simp)
      ·rw [if_neg c7] at H
       exact absurd H (by simp)
     ·rw [if_neg c6] at H
      have c6b0 : decide (x4_1 < (l0.length : Int)) = false := decide_eq_false c6
      clear c6
      obtain rfl := Option.some.inj H
      go_wp2
      go_ret
      exact ⟨_, fR_, by (with_reducible repeat (first | apply rA_ | apply rN_ | apply rD_)); exact HO_3.out, gB_ HB.out⟩
  ·rw [if_neg c3] at H
   exact absurd H (by simp)
 ·rw [if_neg c2] at H
  exact absurd H (by simp)
def laws_toWrite.f (k : Nat) (a0_0 : Int) (l0_1 : List Int) : Option (Int × List Int) := (laws_toIntS.f k l0_1).bind fun t242 => (some (a0_0, t242))
set_option maxHeartbeats 8000000 in
set_option maxRecDepth 100000 in
theorem laws_toWrite.calls (k : Nat) (a0_0 : Int) (A0_1 : Option Addr) (c0_1 : Nat) (l0_1 : List Int) (r1 : Int) (r2 : List Int) (w : World) (hr0_1 : Kd.C (Kd.int .i64) w A0_1 l0_1.length l0_1) (hc0_1 : l0_1.length ≤ c0_1) (h : laws_toWrite.f k a0_0 l0_1 = some (r1, r2)) :
  Calls Try.prog 114 #[.agg #[.int .i64 a0_0, .slice A0_1 l0_1.length c0_1]] w fun e w' => ∃ v1_ : Value, e = .returned (.agg #[.int .i64 r1, v1_]) ∧ Kd.R (Kd.int .i64) 3 w' w.heap.size (fun _ => True) v1_ r2 ∧ Below w.heap.size w w' := by
 have hu139 := Try.underlying139
 have hu43 := Try.underlying43
 have HR0_1 := aM_ hr0_1
 have HC0_1 := aM_ hc0_1
 clear hr0_1 hc0_1
 have HB := aM_ (Below.refl w.heap.size w)
 have H : ((laws_toIntS.f k l0_1).bind fun t242 => (some (a0_0, t242))) = some (r1, r2) := h
 clear h
 replace H := Option.bind_eq_some_iff.mp H
 obtain ⟨t242, A20, H⟩ := H
 replace H : (some (a0_0, t242)) = some (r1, r2) := H
 have A2 := aM_ A20
 clear A20
 simp only [Option.some.injEq, Prod.mk.injEq] at H
 obtain ⟨rfl, rfl⟩ := H
 go_enter Try.func114, Try.ntmps114
 go_wp2_with (first | ((with_reducible refine gate_dst (N := 1) rfl ?_); refine bX_ 1 (cs := #[.int .i64 a0_0, .slice A0_1 l0_1.length c0_1]) (t := 139) ?_; intro gb239 hg w3 hbox hb; have n0 := aM_ (sT_ HB.out hb); have n1 := aM_ (hbox); have n2 := aM_ (sZ_ hg HB.out); have n3 := aM_ (sZ_ hg HB.out); clear HB; have HB := n0; have BK239 := n1; have GW239 := n2; have GE239 := n3; clear n0 n1 n2 n3; clear hb hbox hg) | ((with_reducible refine gate_dst (N := 2) rfl ?_); refine bX_ 2 (cs := #[.int .i64 0, .slice none 0 0]) (t := 43) ?_; intro gb240 hg w4 hbox hb; have n0 := aM_ (nB_ BK239.out hb); have n1 := aM_ (sT_ HB.out hb); have n2 := aM_ (hbox); have n3 := aM_ (sZ_ hg HB.out); have n4 := aM_ (sZ_ hg HB.out); have n5 := aM_ (nL_ hg BK239.out); have n6 := aM_ (nG_ hg BK239.out); clear BK239; clear HB; have BK239 := n0; have HB := n1; have BK240 := n2; have GW240 := n3; have GE240 := n4; have NB239_240 := n5; have NB240_239 := n6; clear n0 n1 n2 n3 n4 n5 n6; clear hb hbox hg) | ((with_reducible refine gate_dst (N := 3) rfl ?_); refine bX_ 3 (cs := #[.int .i64 0, .slice none 0 0]) (t := 43) ?_; intro gb241 hg w5 hbox hb; have n0 := aM_ (nB_ BK239.out hb); have n1 := aM_ (nB_ BK240.out hb); have n2 := aM_ (sT_ HB.out hb); have n3 := aM_ (hbox); have n4 := aM_ (sZ_ hg HB.out); have n5 := aM_ (sZ_ hg HB.out); have n6 := aM_ (nL_ hg BK239.out); have n7 := aM_ (nG_ hg BK239.out); have n8 := aM_ (nL_ hg BK240.out); have n9 := aM_ (nG_ hg BK240.out); clear BK239; clear BK240; clear HB; have BK239 := n0; have BK240 := n1; have HB := n2; have BK241 := n3; have GW241 := n4; have GE241 := n5; have NB239_241 := n6; have NB241_239 := n7; have NB240_241 := n8; have NB241_240 := n9; clear n0 n1 n2 n3 n4 n5 n6 n7 n8 n9; clear hb hbox hg; have hnb6 := NB239_240.out; have hnc6 := NB240_239.out; have hnb7 := NB239_241.out; have hnc7 := NB241_239.out; obtain ⟨hcz8_0, hcz8_1, hfz8_0, hfz8_1⟩ := bR2_ BK239.out; have hnb9 := NB241_240.out; have hnc9 := NB240_241.out; obtain ⟨hcz10_0, hcz10_1, hfz10_0, hfz10_1⟩ := bR2_ BK241.out) | ((with_reducible refine gate_callee (f := 32) rfl ?_); refine gL_ (some 9) Try.func32 #[.slice A0_1 l0_1.length c0_1] ?_; (with_reducible refine (laws_toIntS.calls k _ _ l0_1 t242 _ ?side1 ?side2 A2.out).mono ?_); (case side1 => exact Kd.C_below HR0_1.out (gB_ HB.out)); (case side2 => exact HC0_1.out); rintro e w11 ⟨v243, rfl, ho0, hb⟩; refine ⟨_, rfl, ?_⟩; have n0 := aM_ (Kd.R_lower ho0 (below_size (gB_ HB.out))); have n1 := aM_ (blk_below (g := gb239) (o := .cells #[.int .i64 a0_0, .slice A0_1 l0_1.length c0_1] 139 (0, 0)) (by (with_reducible repeat (first | refine bN_ ?_ _ | refine bD_ ?_ | refine bA_ ?_ _)); refine blk_far ?_ NB239_241.out _; (with_reducible repeat (first | refine bN_ ?_ _ | refine bD_ ?_ | refine bA_ ?_ _)); exact BK239.out) hb); have n2 := aM_ (blk_below (g := gb240) (o := .cells #[.int .i64 0, .slice none 0 0] 43 (0, 0)) (by (with_reducible repeat (first | refine bN_ ?_ _ | refine bD_ ?_ | refine bA_ ?_ _)); refine blk_far ?_ NB240_241.out _; (with_reducible repeat (first | refine bN_ ?_ _ | refine bD_ ?_ | refine bA_ ?_ _)); exact BK240.out) hb); have n3 := aM_ (blk_below (g := gb241) (o := .cells #[.int .i64 a0_0, .slice none 0 0] 43 (0, 0)) (by (with_reducible repeat (first | refine bN_ ?_ _ | refine bD_ ?_ | refine bA_ ?_ _)); refine blk_put (cs := #[.int .i64 0, .slice none 0 0]) ?_ 0 _ rfl; (with_reducible repeat (first | refine bN_ ?_ _ | refine bD_ ?_ | refine bA_ ?_ _)); exact BK241.out) hb); have n4 := aM_ (sT_ HB.out hb); clear BK239; clear BK240; clear BK241; clear HB; have HO244 := n0; have BK239 := n1; have BK240 := n2; have BK241 := n3; have HB := n4; clear n0 n1 n2 n3 n4; (try clear ho0); obtain ⟨Ao12, co12, eo12⟩ := Kd.R_slice HO244.out; subst eo12; obtain ⟨hcz13_0, hcz13_1, hfz13_0, hfz13_1⟩ := bR2_ BK241.out; obtain ⟨hcz14_0, hcz14_1, hfz14_0, hfz14_1⟩ := bR2_ BK240.out))
 refine bodyPost_ret (results_cell_row rfl _ _ gb240 43 #[.int .i64 a0_0, .slice Ao12 t242.length co12] (0, 0) _ rfl (by (with_reducible repeat (first | refine bN_ ?_ _ | refine bD_ ?_ | refine bA_ ?_ _)); refine blk_put (cs := #[.int .i64 a0_0, .slice none 0 0]) ?_ 1 _ rfl; (with_reducible repeat (first | refine bN_ ?_ _ | refine bD_ ?_ | refine bA_ ?_ _)); refine blk_put (cs := #[.int .i64 0, .slice none 0 0]) ?_ 0 _ rfl; (with_reducible repeat (first | refine bN_ ?_ _ | refine bD_ ?_ | refine bA_ ?_ _)); refine blk_far ?_ NB240_241.out _; (with_reducible repeat (first | refine bN_ ?_ _ | refine bD_ ?_ | refine bA_ ?_ _)); exact BK240.out) Try.underlying43 rfl (by kernel_rfl)) rfl ?_
 exact ⟨_, fR_, by (with_reducible repeat (first | apply rA_ | apply rN_ | apply rD_)); exact Kd.R_mono (Kd.R_far (p := ⟨gb240, 1, none⟩) (Kd.R_far (p := ⟨gb240, 0, none⟩) (Kd.R_far (p := ⟨gb241, 1, none⟩) (Kd.R_types (Kd.R_types HO244.out BK241.out (by decide)) BK240.out (by decide)) (fun _ hk => hk.1.2) (.slice Ao12 t242.length co12)) (fun _ hk => hk.2) (.int .i64 a0_0)) (fun _ hk => hk.2) (.slice Ao12 t242.length co12)) (fun _ hk => trivial), gB_ HB.out⟩
def laws_toWriteS.l0 : Nat → List (S139) → List (S43) → Int → Option ((List (S43)))
  | 0, _, _, _ => none
  | k + 1, x0, x3, x4 => if x4 < (x0.length : Int) then (if 0 ≤ x4 then ((laws_toWrite.f k ((rd_T139 x0 x4).f0) ((rd_T139 x0 x4).f1)).bind fun bt249 => (if x4 < (x3.length : Int) then (laws_toWriteS.l0 k x0 (x3.set (x4 : Int).toNat (⟨bt249.1, bt249.2⟩ : S43)) (wrap64 (x4 + 1))) else (none))) else (none)) else (some x3)
def laws_toWriteS.f (k : Nat) (l0 : List (S139)) : Option ((List (S43))) := if 0 ≤ (l0.length : Int) then (if ((l0.length : Int) : Int).toNat ≤ 8796093022208 then (laws_toWriteS.l0 k l0 (List.replicate ((l0.length : Int) : Int).toNat z43) 0) else (none)) else (none)
set_option maxHeartbeats 8000000 in
set_option maxRecDepth 100000 in
theorem laws_toWriteS.calls (k : Nat) (A0 : Option Addr) (c0 : Nat) (l0 : List (S139)) (r : List (S43)) (w : World) (hr0 : Kd.C k139 w A0 l0.length l0) (hc0 : l0.length ≤ c0) (h : laws_toWriteS.f k l0 = some r) :
  Calls Try.prog 99 #[.slice A0 l0.length c0] w fun e w' => ∃ v0_ : Value, e = .returned (v0_) ∧ Kd.S k43 43 w' w.heap.size (fun _ => True) v0_ r ∧ Below w.heap.size w w' := by
 have hu139 := Try.underlying139
 have hu43 := Try.underlying43
 have HR0 := aM_ hr0
 have HC0 := aM_ hc0
 clear hr0 hc0
 have HB := aM_ (Below.refl w.heap.size w)
 have H : (if 0 ≤ (l0.length : Int) then (if ((l0.length : Int) : Int).toNat ≤ 8796093022208 then (laws_toWriteS.l0 k l0 (List.replicate ((l0.length : Int) : Int).toNat z43) 0) else (none)) else (none)) = some r := h
 clear h
 by_cases c2 : 0 ≤ (l0.length : Int)
 ·rw [if_pos c2] at H
  have c2b0 := eq_true c2
  have c2b1 : decide (0 ≤ (l0.length : Int)) = true := decide_eq_true c2
  clear c2
  by_cases c3 : ((l0.length : Int) : Int).toNat ≤ 8796093022208
  ·rw [if_pos c3] at H
   have c3b0 := eq_true c3
   have c3b1 : decide (((l0.length : Int) : Int).toNat ≤ 8796093022208) = true := decide_eq_true c3
   clear c3
   obtain ⟨y245, hy245⟩ : ∃ y_ : List (S43), y_ = (List.replicate ((l0.length : Int) : Int).toNat z43) := ⟨_, rfl⟩
   replace H : (laws_toWriteS.l0 k l0 y245 0) = some r := by first | (rw [hy245]; with_reducible exact H) | (have H2_ := (Option.bind_some _ _).symm.trans H; rw [hy245]; with_reducible exact H2_) | (have H2_ := (Option.bind_some _ _).symm.trans H; with_reducible exact H2_) | with_reducible exact H | (rw [hy245]; exact H) | exact H
   have Ny245 := aM_ hy245
   clear hy245
   have H' := aM_ H
   clear H
   go_enter Try.func99, Try.ntmps99
   go_wp2_with (first | ((with_reducible refine gate_dst (N := 7) rfl ?_); refine Kd.S_make k43 _ 43 rfl (N := 7) rfl 44 _ _ rfl (l0.length : Int) rfl rfl Try.underlying44 (.agg #[(.int .i64 0), (.slice none 0 0)]) 32 info43 rfl (by decide) (by omega) z43 (ok := fun _ => True) (okp := fun _ => True) (k43_mkM _ _ _ z43 (Kd.R_nil _ _ _ _ _)) (fun _ hk => hk) trivial (of_decide_eq_true (by first | (with_reducible assumption) | assumption)) (Nat.le_trans (Nat.mul_le_mul_right _ (of_decide_eq_true (by first | (with_reducible assumption) | assumption) : (l0.length : Int).toNat ≤ 8796093022208)) (by omega)) (Below.refl _ _) (Nat.le_refl _) ?_; intro v246 w4 ho5 hb hg_ hnew_; clear hg_ hnew_; (first | rw [← Ny245.out] at ho5 | (simp only [Int.reduceToNat] at ho5; rw [← Ny245.out] at ho5)); have n0 := aM_ (Kd.S_lower ho5 (below_size (gB_ HB.out))); have n1 := aM_ (sT_ HB.out hb); clear HB; have HO247 := n0; have HB := n1; clear n0 n1; clear hb ho5))
   go_loopg [4] k (fun kq v4 w' => ∃ (x3_1 : List (S43)) (x4_1 : Int), v4 = .int .i64 x4_1 ∧ Aside0 (laws_toWriteS.l0 kq l0 x3_1 x4_1 = some r) ∧ Aside0 (kq ≤ k) ∧ Aside0 (Kd.S k43 43 w' w.heap.size (fun _ => True) v246 x3_1) ∧ Aside0 (Below w.heap.size w w'))
   case atStart => exact ⟨(y245), (0), (by first | rfl | (simp; done) | (simp [*]; done)), H', ⟨Nat.le_refl _⟩, ⟨by (with_reducible repeat (first | apply Kd.S_alloc | apply Kd.S_drewN | apply Kd.S_drew)); exact HO247.out⟩, ⟨gW_ HB.out⟩⟩
   case round =>
    clear H'
    try clear c2
    try clear c2b0
    try clear c2b1
    try clear p2
    try clear c3
    try clear c3b0
    try clear c3b1
    obtain ⟨x3_1, x4_1, rfl, HA, HK1, HO_3, HB⟩ := hrel
    cases gk with
    | zero => exact absurd HA.out (by simp [laws_toWriteS.l0])
    | succ k1 =>
     have H := HA.out
     clear HA
     simp only [laws_toWriteS.l0] at H
     by_cases c6 : x4_1 < (l0.length : Int)
     ·rw [if_pos c6] at H
      have c6b0 : decide (x4_1 < (l0.length : Int)) = true := decide_eq_true c6
      clear c6
      by_cases c7 : 0 ≤ x4_1
      ·rw [if_pos c7] at H
       have c7b0 : decide (0 ≤ x4_1) = true := decide_eq_true c7
       clear c7
       replace H := Option.bind_eq_some_iff.mp H
       obtain ⟨⟨t249, t250⟩, A80, H⟩ := H
       replace H : (if x4_1 < (x3_1.length : Int) then (laws_toWriteS.l0 k1 l0 (x3_1.set (x4_1 : Int).toNat (⟨t249, t250⟩ : S43)) (wrap64 (x4_1 + 1))) else (none)) = some r := H
       have A8 := aM_ A80
       clear A80
       by_cases c9 : x4_1 < (x3_1.length : Int)
       ·rw [if_pos c9] at H
        have c9b0 : decide (x4_1 < (x3_1.length : Int)) = true := decide_eq_true c9
        clear c9
        obtain ⟨y253, hy253⟩ : ∃ y_ : List (S43), y_ = (x3_1.set (x4_1 : Int).toNat (⟨t249, t250⟩ : S43)) := ⟨_, rfl⟩
        replace H : (laws_toWriteS.l0 k1 l0 y253 (wrap64 (x4_1 + 1))) = some r := by first | (rw [hy253]; with_reducible exact H) | (have H2_ := (Option.bind_some _ _).symm.trans H; rw [hy253]; with_reducible exact H2_) | (have H2_ := (Option.bind_some _ _).symm.trans H; with_reducible exact H2_) | with_reducible exact H | (rw [hy253]; exact H) | exact H
        have Ny253 := aM_ hy253
        clear hy253
        have H' := aM_ H
        clear H
        have p248 : 0 ≤ (x4_1 : Int) := of_decide_eq_true (by first | (with_reducible assumption) | assumption)
        have q248 : x4_1 < (l0.length : Int) := of_decide_eq_true (by first | (with_reducible assumption) | assumption)
        obtain ⟨ad248, A248_1, c248_1, e248, hx248_0, hx248_1, hl248_1, hi248_1⟩ := at_T139 HR0.out x4_1 p248 q248
        cases e248
        replace hx248_0 := cB_ HB.out hx248_0
        replace hx248_1 := cB_ HB.out hx248_1
        have HR248_1 := aM_ hi248_1
        have HC248_1 := aM_ hl248_1
        clear hi248_1 hl248_1
        replace p248 := eq_true p248
        replace q248 := eq_true q248
        go_wp2_with (first | ((with_reducible refine gate_callee (f := 114) rfl ?_); refine gL_ (some 20) Try.func114 #[.agg #[.int .i64 ((rd_T139 l0 x4_1).f0), .slice A248_1 ((rd_T139 l0 x4_1).f1).length c248_1]] ?_; (with_reducible refine (laws_toWrite.calls k1 ((rd_T139 l0 x4_1).f0) _ _ ((rd_T139 l0 x4_1).f1) t249 t250 _ ?side1 ?side2 A8.out).mono ?_); (case side1 => exact cS_ (Kd.C_below HR248_1.out HB.out)); (case side2 => exact HC248_1.out); rintro e w11 ⟨v251, rfl, ho0, hb⟩; refine ⟨_, rfl, ?_⟩; have n0 := aM_ (Kd.S_elder' (by (with_reducible repeat (first | apply Kd.S_alloc | apply Kd.S_drewN | apply Kd.S_drew)); exact HO_3.out) (Kd.R_base ho0) hb); have n1 := aM_ (Kd.R_lower ho0 (below_size (gB_ HB.out))); have n2 := aM_ (sT_ HB.out hb); clear HO_3; clear HB; have HO_3 := n0; have HO252 := n1; have HB := n2; clear n0 n1 n2; (try clear ho0); have p10 : 0 ≤ (x4_1 : Int) := of_decide_eq_true (by first | (with_reducible assumption) | assumption); have q10 : (x4_1 : Int) < ((x3_1.length : Int) : Int) := of_decide_eq_true (by first | (with_reducible assumption) | assumption); obtain ⟨go10, co10, eo10, gb10, gl10, cl10, HG10⟩ := Kd.S_form HO_3.out (by omega); (first | cases eo10 | (injection eo10 with ea_ en_ ec_; (first | subst ea_ | (injection ea_ with ea_; subst ea_)); subst ec_; clear en_)); have GB10 := aM_ gb10; have GG10 := aM_ HG10; clear gb10 gl10 HG10; obtain ⟨_, ce10, hcl10, hM10, hcc10, hfr10, _, _⟩ := Kd.S_elem HO_3.out z43 (x4_1 : Int) p10 q10; obtain ⟨ve10_1, rfl, ge10_1⟩ := k43_openM hM10; have hx10_0 : w11.cell? ⟨go10, (x4_1 : Int).toNat * 2, none⟩ = some (.int .i64 ((rd_T43 x3_1 x4_1).f0)) := hcc10 0 _ rfl; have hx10_1 : w11.cell? ⟨go10, (x4_1 : Int).toNat * 2 + 1, none⟩ = some (ve10_1) := hcc10 1 _ rfl; have hf10_0 : w11.frozen? ⟨go10, (x4_1 : Int).toNat * 2, none⟩ = false := hfr10 0; have hf10_1 : w11.frozen? ⟨go10, (x4_1 : Int).toNat * 2 + 1, none⟩ = false := hfr10 1; (try clear hcl10); (try clear hcc10); (try clear hfr10); (try clear hM10); replace p10 := eq_true p10; replace q10 := eq_true q10; have n_ := aM_ (Kd.S_mono (ok' := (fun k_ => some k_ ≠ (v251 : Value).ownBlock)) HO_3.out (fun k_ hk => hk.2)); clear HO_3; have HO_3 := n_; clear n_; have HX12 := aM_ (show Kd.S k43 43 w11 w.heap.size (fun k_ => ((fun _ => True)) k_ ∧ ¬ ((fun k_ => some k_ = (v251 : Value).ownBlock)) k_) (.slice (some ⟨go10, 0, none⟩) x3_1.length co10) x3_1 from (by (with_reducible repeat (first | apply Kd.S_alloc | apply Kd.S_drewN | apply Kd.S_drew)); exact Kd.S_mono HO_3.out (fun k_ hk => ⟨trivial, fun e_ => hk e_⟩))); obtain ⟨oki12, ce12, hcl12, hM12, hcc12, hfr12, hoki12, hH12⟩ := Kd.S_elem HX12.out z43 (x4_1 : Int) (of_decide_eq_true (by first | (with_reducible assumption) | assumption)) (by have h_ : (x4_1 : Int) < ((x3_1.length : Int) : Int) := of_decide_eq_true (by first | (with_reducible assumption) | assumption); first | exact h_ | (have e_ := (Kd.S_reads' HO_3.out).1; omega) | simpa using h_); obtain ⟨ve12_1, rfl, ge12_1⟩ := k43_openM hM12; have HP12 := Kd.S_seg hH12 (of_decide_eq_true (by first | (with_reducible assumption) | assumption)) (by have h_ : (x4_1 : Int) < ((x3_1.length : Int) : Int) := of_decide_eq_true (by first | (with_reducible assumption) | assumption); first | exact h_ | (have e_ := (Kd.S_reads' HO_3.out).1; omega) | simpa using h_) (seg := [.int .i64 t249, v251]) (j := 0) (show 2 ≤ 2 from by decide) (x' := (⟨t249, t250⟩ : S43)) (k43_mkM _ _ _ (⟨t249, t250⟩ : S43) (Kd.R_mono (Kd.R_tight rfl (Kd.R_mono (ok' := fun k_ => ((fun _ => True)) k_ ∧ k_ ≠ go10) (Kd.R_apart' (HO252.out) (Kd.S_typed HO_3.out) (by decide)) (fun k_ hk => ⟨trivial, fun e_ => (hk.2) (by rw [e_]; rfl)⟩))) (fun _ h_ => Or.inr (h_)))) (fun _ hk => hk) (fun k_ hk_ => ((Kd.R_mono (ok' := fun k_ => ((fun _ => True)) k_ ∧ k_ ≠ go10) (Kd.R_apart' (HO252.out) (Kd.S_typed HO_3.out) (by decide)) (fun k_ hk => ⟨trivial, fun e_ => (hk.2) (by rw [e_]; rfl)⟩))).1 k_ hk_.symm); have hx12_0 := hcc12 0 _ rfl; (try simp only [show (k43).sz = 2 from rfl, Nat.mul_one, Nat.add_zero] at hx12_0); have hf12_0 := hfr12 0; (try simp only [show (k43).sz = 2 from rfl, Nat.mul_one, Nat.add_zero] at hf12_0); have hx12_1 := hcc12 1 _ rfl; (try simp only [show (k43).sz = 2 from rfl, Nat.mul_one, Nat.add_zero] at hx12_1); have hf12_1 := hfr12 1; (try simp only [show (k43).sz = 2 from rfl, Nat.mul_one, Nat.add_zero] at hf12_1); (try clear hcl12); (try clear hcc12); (try clear hfr12); (try clear hM12); (try clear hoki12); (try clear hH12)) | ((with_reducible refine gate_store (t := 43) (p := 21) rfl ?_); refine store_event (t := 43) (p := 21) (v := ?vo_w13) (w1 := ((w11.setCell ⟨go10, (x4_1 : Int).toNat * 2, none⟩ (.int .i64 t249)).setCell ⟨go10, (x4_1 : Int).toNat * 2 + 1, none⟩ (v251))) ?hg ?ho ?hn ?hr ?_; (case ho => rfl); (case hg => rfl); (case hn => rfl); (case hr => first | (go_simp; done) | (go_simp; rfl) | (obtain ⟨_, _, e_⟩ := Kd.R_slice HO252.out; rw [e_]; first | (go_simp; done) | (go_simp; rfl)) | (obtain ⟨_, _, e_⟩ := Kd.S_slice HO252.out; rw [e_]; first | (go_simp; done) | (go_simp; rfl)) | (obtain ⟨_, _, e_⟩ := Kd.Q_slice HO252.out; rw [e_]; first | (go_simp; done) | (go_simp; rfl)) | (obtain ⟨_, _, e_⟩ := Kd.N_slice HO252.out; rw [e_]; first | (go_simp; done) | (go_simp; rfl))); intro w13 hw; have hg : w11.grownBy w13 (some go10) := (by rw [hw]; exact HP12.2); have hp_ : Kd.S k43 43 w13 w.heap.size (fun _ => True) (.slice (some ⟨go10, 0, none⟩) x3_1.length co10) y253 := (by rw [hw, Ny253.out]; exact HP12.1); clear HP12; have n0 := aM_ (hp_); have n1 := aM_ ((by rw [hw]; exact below_set (below_set (HB.out) GB10.out) GB10.out : Below w.heap.size w w13)); clear HO_3; clear HB; clear HO252; have HO_3 := n0; have HB := n1; clear n0 n1; clear hg hw hp_))
        go_roundg k1
        case measure => have := HK1.out; omega
        case rel => exact ⟨(y253), (wrap64 (x4_1 + 1)), (by first | rfl | (simp; done) | (simp [*]; done)), H', ⟨by have := HK1.out; omega⟩, ⟨by (with_reducible repeat (first | apply Kd.S_alloc | apply Kd.S_drewN | apply Kd.S_drew)); exact HO_3.out⟩, ⟨gW_ HB.out⟩⟩
       ·rw [if_neg c9] at H
        exact absurd H (by simp)
      ·rw [if_neg c7] at H
       exact absurd H (by simp)
     ·rw [if_neg c6] at H
      have c6b0 : decide (x4_1 < (l0.length : Int)) = false := decide_eq_false c6
      clear c6
      obtain rfl := Option.some.inj H
      go_wp2
      go_ret
      exact ⟨_, fR_, by (with_reducible repeat (first | apply Kd.S_alloc | apply Kd.S_drewN | apply Kd.S_drew)); exact HO_3.out, gB_ HB.out⟩
  ·rw [if_neg c3] at H
   exact absurd H (by simp)
 ·rw [if_neg c2] at H
  exact absurd H (by simp)
def laws_toWriteSS.l0 : Nat → List (List (S139)) → List (List (S43)) → Int → Option ((List (List (S43))))
  | 0, _, _, _ => none
  | k + 1, x0, x3, x4 => if x4 < (x0.length : Int) then (if 0 ≤ x4 then ((laws_toWriteS.f k (rd_L5 x0 x4)).bind fun t258 => (if x4 < (x3.length : Int) then (laws_toWriteSS.l0 k x0 (x3.set (x4 : Int).toNat t258) (wrap64 (x4 + 1))) else (none))) else (none)) else (some x3)
def laws_toWriteSS.f (k : Nat) (l0 : List (List (S139))) : Option ((List (List (S43)))) := if 0 ≤ (l0.length : Int) then (if ((l0.length : Int) : Int).toNat ≤ 11728124029610 then (laws_toWriteSS.l0 k l0 (List.replicate ((l0.length : Int) : Int).toNat []) 0) else (none)) else (none)
set_option maxHeartbeats 8000000 in
set_option maxRecDepth 100000 in
theorem laws_toWriteSS.calls (k : Nat) (A0 : Option Addr) (c0 : Nat) (l0 : List (List (S139))) (r : List (List (S43))) (w : World) (hr0 : Kd.C (Kd.slice 139 k139) w A0 l0.length l0) (hc0 : l0.length ≤ c0) (h : laws_toWriteSS.f k l0 = some r) :
  Calls Try.prog 71 #[.slice A0 l0.length c0] w fun e w' => ∃ v0_ : Value, e = .returned (v0_) ∧ Kd.R (Kd.slice 43 k43) 44 w' w.heap.size (fun _ => True) v0_ r ∧ Below w.heap.size w w' := by
 have HR0 := aM_ hr0
 have HC0 := aM_ hc0
 clear hr0 hc0
 have HB := aM_ (Below.refl w.heap.size w)
 have H : (if 0 ≤ (l0.length : Int) then (if ((l0.length : Int) : Int).toNat ≤ 11728124029610 then (laws_toWriteSS.l0 k l0 (List.replicate ((l0.length : Int) : Int).toNat []) 0) else (none)) else (none)) = some r := h
 clear h
 by_cases c2 : 0 ≤ (l0.length : Int)
 ·rw [if_pos c2] at H
  have c2b0 := eq_true c2
  have c2b1 : decide (0 ≤ (l0.length : Int)) = true := decide_eq_true c2
  clear c2
  by_cases c3 : ((l0.length : Int) : Int).toNat ≤ 11728124029610
  ·rw [if_pos c3] at H
   have c3b0 := eq_true c3
   have c3b1 : decide (((l0.length : Int) : Int).toNat ≤ 11728124029610) = true := decide_eq_true c3
   clear c3
   obtain ⟨y254, hy254⟩ : ∃ y_ : List (List (S43)), y_ = (List.replicate ((l0.length : Int) : Int).toNat []) := ⟨_, rfl⟩
   replace H : (laws_toWriteSS.l0 k l0 y254 0) = some r := by first | (rw [hy254]; with_reducible exact H) | (have H2_ := (Option.bind_some _ _).symm.trans H; rw [hy254]; with_reducible exact H2_) | (have H2_ := (Option.bind_some _ _).symm.trans H; with_reducible exact H2_) | with_reducible exact H | (rw [hy254]; exact H) | exact H
   have Ny254 := aM_ hy254
   clear hy254
   have H' := aM_ H
   clear H
   go_enter Try.func71, Try.ntmps71
   go_wp2_with (first | ((with_reducible refine gate_dst (N := 7) rfl ?_); refine Kd.R_make (Kd.slice 43 k43) _ 44 rfl (N := 7) rfl 22 _ _ rfl (l0.length : Int) rfl rfl Try.underlying22 (.slice none 0 0) 24 info44 rfl (by decide) (by omega) [] (ok := fun _ => True) (okp := fun _ => True) ⟨_, rfl, Kd.R_nil _ _ _ _ _⟩ (fun _ hk => hk) trivial (of_decide_eq_true (by first | (with_reducible assumption) | assumption)) (Nat.le_trans (Nat.mul_le_mul_right _ (of_decide_eq_true (by first | (with_reducible assumption) | assumption) : (l0.length : Int).toNat ≤ 11728124029610)) (by omega)) (Below.refl _ _) (Nat.le_refl _) ?_; intro v255 w4 ho5 hb hg_ hnew_; clear hg_ hnew_; (first | rw [← Ny254.out] at ho5 | (simp only [Int.reduceToNat] at ho5; rw [← Ny254.out] at ho5)); have n0 := aM_ (Kd.R_lower ho5 (below_size (gB_ HB.out))); have n1 := aM_ (sT_ HB.out hb); clear HB; have HO256 := n0; have HB := n1; clear n0 n1; clear hb ho5))
   go_loopg [4] k (fun kq v4 w' => ∃ (x3_1 : List (List (S43))) (x4_1 : Int), v4 = .int .i64 x4_1 ∧ Aside0 (laws_toWriteSS.l0 kq l0 x3_1 x4_1 = some r) ∧ Aside0 (kq ≤ k) ∧ Aside0 (Kd.R (Kd.slice 43 k43) 44 w' w.heap.size (fun _ => True) v255 x3_1) ∧ Aside0 (Below w.heap.size w w'))
   case atStart => exact ⟨(y254), (0), (by first | rfl | (simp; done) | (simp [*]; done)), H', ⟨Nat.le_refl _⟩, ⟨by (with_reducible repeat (first | apply rA_ | apply rN_ | apply rD_)); exact HO256.out⟩, ⟨gW_ HB.out⟩⟩
   case round =>
    clear H'
    try clear c2
    try clear c2b0
    try clear c2b1
    try clear p2
    try clear c3
    try clear c3b0
    try clear c3b1
    obtain ⟨x3_1, x4_1, rfl, HA, HK1, HO_3, HB⟩ := hrel
    cases gk with
    | zero => exact absurd HA.out (by simp [laws_toWriteSS.l0])
    | succ k1 =>
     have H := HA.out
     clear HA
     simp only [laws_toWriteSS.l0] at H
     by_cases c6 : x4_1 < (l0.length : Int)
     ·rw [if_pos c6] at H
      have c6b0 : decide (x4_1 < (l0.length : Int)) = true := decide_eq_true c6
      clear c6
      by_cases c7 : 0 ≤ x4_1
      ·rw [if_pos c7] at H
       have c7b0 : decide (0 ≤ x4_1) = true := decide_eq_true c7
       clear c7
       replace H := Option.bind_eq_some_iff.mp H
       obtain ⟨t258, A80, H⟩ := H
       replace H : (if x4_1 < (x3_1.length : Int) then (laws_toWriteSS.l0 k1 l0 (x3_1.set (x4_1 : Int).toNat t258) (wrap64 (x4_1 + 1))) else (none)) = some r := H
       have A8 := aM_ A80
       clear A80
       by_cases c9 : x4_1 < (x3_1.length : Int)
       ·rw [if_pos c9] at H
        have c9b0 : decide (x4_1 < (x3_1.length : Int)) = true := decide_eq_true c9
        clear c9
        obtain ⟨y261, hy261⟩ : ∃ y_ : List (List (S43)), y_ = (x3_1.set (x4_1 : Int).toNat t258) := ⟨_, rfl⟩
        replace H : (laws_toWriteSS.l0 k1 l0 y261 (wrap64 (x4_1 + 1))) = some r := by first | (rw [hy261]; with_reducible exact H) | (have H2_ := (Option.bind_some _ _).symm.trans H; rw [hy261]; with_reducible exact H2_) | (have H2_ := (Option.bind_some _ _).symm.trans H; with_reducible exact H2_) | with_reducible exact H | (rw [hy261]; exact H) | exact H
        have Ny261 := aM_ hy261
        clear hy261
        have H' := aM_ H
        clear H
        have p257 : 0 ≤ (x4_1 : Int) := of_decide_eq_true (by first | (with_reducible assumption) | assumption)
        have q257 : x4_1 < (l0.length : Int) := of_decide_eq_true (by first | (with_reducible assumption) | assumption)
        obtain ⟨ad257, A257_0, c257_0, e257, hx257_0, hl257_0, hi257_0⟩ := at_L5 HR0.out x4_1 p257 q257
        cases e257
        replace hx257_0 := cB_ HB.out hx257_0
        have HR257_0 := aM_ hi257_0
        have HC257_0 := aM_ hl257_0
        clear hi257_0 hl257_0
        replace p257 := eq_true p257
        replace q257 := eq_true q257
        go_wp2_with (first | ((with_reducible refine gate_callee (f := 99) rfl ?_); refine gL_ (some 20) Try.func99 #[.slice A257_0 (rd_L5 l0 x4_1).length c257_0] ?_; (with_reducible refine (laws_toWriteS.calls k1 _ _ (rd_L5 l0 x4_1) t258 _ ?side1 ?side2 A8.out).mono ?_); (case side1 => exact cS_ (Kd.C_below HR257_0.out HB.out)); (case side2 => exact HC257_0.out); rintro e w11 ⟨v259, rfl, ho0, hb⟩; refine ⟨_, rfl, ?_⟩; have n0 := aM_ (Kd.R_elder' (by (with_reducible repeat (first | apply rA_ | apply rN_ | apply rD_)); exact HO_3.out) (Kd.S_base ho0) hb); have n1 := aM_ (Kd.S_lower ho0 (below_size (gB_ HB.out))); have n2 := aM_ (sT_ HB.out hb); clear HO_3; clear HB; have HO_3 := n0; have HO260 := n1; have HB := n2; clear n0 n1 n2; (try clear ho0); have p10 : 0 ≤ (x4_1 : Int) := of_decide_eq_true (by first | (with_reducible assumption) | assumption); have q10 : (x4_1 : Int) < ((x3_1.length : Int) : Int) := of_decide_eq_true (by first | (with_reducible assumption) | assumption); obtain ⟨go10, co10, eo10, gb10, gl10, cl10, HG10⟩ := Kd.R_form HO_3.out (by omega); (first | cases eo10 | (injection eo10 with ea_ en_ ec_; (first | subst ea_ | (injection ea_ with ea_; subst ea_)); subst ec_; clear en_)); have GB10 := aM_ gb10; have GG10 := aM_ HG10; clear gb10 gl10 HG10; obtain ⟨ce10, hcl10, hM10, hcc10, hfr10⟩ := Kd.R_elem HO_3.out [] (x4_1 : Int) p10 q10; obtain ⟨ve10_0, rfl, ge10_0⟩ := hM10; have hx10_0 := hcc10 0 _ rfl; have hf10_0 := hfr10 0; (try simp only [show ((Kd.slice 43 k43)).sz = 1 from rfl, Nat.mul_one, Nat.add_zero] at hx10_0); (try simp only [show ((Kd.slice 43 k43)).sz = 1 from rfl, Nat.mul_one, Nat.add_zero] at hf10_0); (try clear hcl10); (try clear hcc10); (try clear hfr10); (try clear hM10); replace p10 := eq_true p10; replace q10 := eq_true q10; have n_ := aM_ (Kd.R_mono (ok' := (fun k_ => some k_ ≠ (v259 : Value).ownBlock)) HO_3.out (fun k_ hk => hk.2)); clear HO_3; have HO_3 := n_; clear n_; have HX12 := aM_ (show Kd.R (Kd.slice 43 k43) 44 w11 w.heap.size (fun _ => True) (.slice (some ⟨go10, 0, none⟩) x3_1.length co10) x3_1 from (by (with_reducible repeat (first | apply rA_ | apply rN_ | apply rD_)); exact Kd.R_mono HO_3.out (fun _ hk => trivial))); obtain ⟨ce12, hcl12, hM12, hcc12, hfr12⟩ := Kd.R_elem HX12.out [] (x4_1 : Int) (of_decide_eq_true (by first | (with_reducible assumption) | assumption)) (by have h_ : (x4_1 : Int) < ((x3_1.length : Int) : Int) := of_decide_eq_true (by first | (with_reducible assumption) | assumption); first | exact h_ | (have e_ := (Kd.R_reads' HO_3.out).1; omega) | simpa using h_); obtain ⟨ve12_0, rfl, ge12_0⟩ := hM12; have HP12 := Kd.R_seg HX12.out (x4_1 : Int) (of_decide_eq_true (by first | (with_reducible assumption) | assumption)) (by have h_ : (x4_1 : Int) < ((x3_1.length : Int) : Int) := of_decide_eq_true (by first | (with_reducible assumption) | assumption); first | exact h_ | (have e_ := (Kd.R_reads' HO_3.out).1; omega) | simpa using h_) (seg := [v259]) (j := 0) hcl12 hcc12 (show 1 ≤ 1 from by decide) (x' := t258) (Kd.M_row (Kd.R_mono (Kd.R_apart' ((Kd.S_R HO260.out)) (Kd.R_typed HO_3.out) (by decide)) (fun k_ hk => ⟨trivial, fun e_ => (hk.2) (by rw [e_]; rfl)⟩))) (fun _ hk => hk); have hx12_0 := hcc12 0 _ rfl; (try simp only [show ((Kd.slice 43 k43)).sz = 1 from rfl, Nat.mul_one, Nat.add_zero] at hx12_0); have hf12_0 := hfr12 0; (try simp only [show ((Kd.slice 43 k43)).sz = 1 from rfl, Nat.mul_one, Nat.add_zero] at hf12_0); (try clear hcl12); (try clear hcc12); (try clear hfr12); (try clear hM12); (try simp only [show ((Kd.slice 43 k43)).sz = 1 from rfl, Nat.mul_one, Nat.add_zero] at HP12)) | ((with_reducible refine gate_store (t := 44) (p := 21) rfl ?_); refine store_event (t := 44) (p := 21) (v := ?vo_w13) (w1 := (w11.setCell ⟨go10, (x4_1 : Int).toNat, none⟩ (v259))) ?hg ?ho ?hn ?hr ?_; (case ho => rfl); (case hg => rfl); (case hn => rfl); (case hr => first | (go_simp; done) | (go_simp; rfl) | (obtain ⟨_, _, e_⟩ := Kd.R_slice HO260.out; rw [e_]; first | (go_simp; done) | (go_simp; rfl)) | (obtain ⟨_, _, e_⟩ := Kd.S_slice HO260.out; rw [e_]; first | (go_simp; done) | (go_simp; rfl)) | (obtain ⟨_, _, e_⟩ := Kd.Q_slice HO260.out; rw [e_]; first | (go_simp; done) | (go_simp; rfl)) | (obtain ⟨_, _, e_⟩ := Kd.N_slice HO260.out; rw [e_]; first | (go_simp; done) | (go_simp; rfl))); intro w13 hw; have hg : w11.grownBy w13 (some go10) := (by rw [hw]; exact HP12.2); have hp_ : Kd.R (Kd.slice 43 k43) 44 w13 w.heap.size (fun _ => True) (.slice (some ⟨go10, 0, none⟩) x3_1.length co10) y261 := (by rw [hw, Ny261.out]; exact HP12.1); clear HP12; have n0 := aM_ (hp_); have n1 := aM_ ((by rw [hw]; exact below_set (HB.out) GB10.out : Below w.heap.size w w13)); clear HO_3; clear HB; clear HO260; have HO_3 := n0; have HB := n1; clear n0 n1; clear hg hw hp_))
        go_roundg k1
        case measure => have := HK1.out; omega
        case rel => exact ⟨(y261), (wrap64 (x4_1 + 1)), (by first | rfl | (simp; done) | (simp [*]; done)), H', ⟨by have := HK1.out; omega⟩, ⟨by (with_reducible repeat (first | apply rA_ | apply rN_ | apply rD_)); exact HO_3.out⟩, ⟨gW_ HB.out⟩⟩
       ·rw [if_neg c9] at H
        exact absurd H (by simp)
      ·rw [if_neg c7] at H
       exact absurd H (by simp)
     ·rw [if_neg c6] at H
      have c6b0 : decide (x4_1 < (l0.length : Int)) = false := decide_eq_false c6
      clear c6
      obtain rfl := Option.some.inj H
      go_wp2
      go_ret
      exact ⟨_, fR_, by (with_reducible repeat (first | apply rA_ | apply rN_ | apply rD_)); exact HO_3.out, gB_ HB.out⟩
  ·rw [if_neg c3] at H
   exact absurd H (by simp)
 ·rw [if_neg c2] at H
  exact absurd H (by simp)
def laws_toMemory.f (k : Nat) (l0_0 : List (List (S139))) : Option ((List (List (S43)))) := (laws_toWriteSS.f k l0_0).bind fun t265 => (some t265)
set_option maxHeartbeats 8000000 in
set_option maxRecDepth 100000 in
theorem laws_toMemory.calls (k : Nat) (A0_0 : Option Addr) (c0_0 : Nat) (l0_0 : List (List (S139))) (r : List (List (S43))) (w : World) (hr0_0 : Kd.C (Kd.slice 139 k139) w A0_0 l0_0.length l0_0) (hc0_0 : l0_0.length ≤ c0_0) (h : laws_toMemory.f k l0_0 = some r) :
  Calls Try.prog 31 #[.agg #[.slice A0_0 l0_0.length c0_0]] w fun e w' => ∃ v0_ : Value, e = .returned (.agg #[v0_]) ∧ Kd.R (Kd.slice 43 k43) 44 w' w.heap.size (fun _ => True) v0_ r ∧ Below w.heap.size w w' := by
 have hu47 := Try.underlying47
 have hu24 := Try.underlying24
 have HR0_0 := aM_ hr0_0
 have HC0_0 := aM_ hc0_0
 clear hr0_0 hc0_0
 have HB := aM_ (Below.refl w.heap.size w)
 have H : ((laws_toWriteSS.f k l0_0).bind fun t265 => (some t265)) = some r := h
 clear h
 replace H := Option.bind_eq_some_iff.mp H
 obtain ⟨t265, A20, H⟩ := H
 replace H : (some t265) = some r := H
 have A2 := aM_ A20
 clear A20
 obtain rfl := Option.some.inj H
 go_enter Try.func31, Try.ntmps31
 go_wp2_with (first | ((with_reducible refine gate_dst (N := 1) rfl ?_); refine bX_ 1 (cs := #[.slice A0_0 l0_0.length c0_0]) (t := 47) ?_; intro gb262 hg w3 hbox hb; have n0 := aM_ (sT_ HB.out hb); have n1 := aM_ (hbox); have n2 := aM_ (sZ_ hg HB.out); have n3 := aM_ (sZ_ hg HB.out); clear HB; have HB := n0; have BK262 := n1; have GW262 := n2; have GE262 := n3; clear n0 n1 n2 n3; clear hb hbox hg) | ((with_reducible refine gate_dst (N := 2) rfl ?_); refine bX_ 2 (cs := #[.slice none 0 0]) (t := 24) ?_; intro gb263 hg w4 hbox hb; have n0 := aM_ (nB_ BK262.out hb); have n1 := aM_ (sT_ HB.out hb); have n2 := aM_ (hbox); have n3 := aM_ (sZ_ hg HB.out); have n4 := aM_ (sZ_ hg HB.out); have n5 := aM_ (nL_ hg BK262.out); have n6 := aM_ (nG_ hg BK262.out); clear BK262; clear HB; have BK262 := n0; have HB := n1; have BK263 := n2; have GW263 := n3; have GE263 := n4; have NB262_263 := n5; have NB263_262 := n6; clear n0 n1 n2 n3 n4 n5 n6; clear hb hbox hg) | ((with_reducible refine gate_dst (N := 3) rfl ?_); refine bX_ 3 (cs := #[.slice none 0 0]) (t := 24) ?_; intro gb264 hg w5 hbox hb; have n0 := aM_ (nB_ BK262.out hb); have n1 := aM_ (nB_ BK263.out hb); have n2 := aM_ (sT_ HB.out hb); have n3 := aM_ (hbox); have n4 := aM_ (sZ_ hg HB.out); have n5 := aM_ (sZ_ hg HB.out); have n6 := aM_ (nL_ hg BK262.out); have n7 := aM_ (nG_ hg BK262.out); have n8 := aM_ (nL_ hg BK263.out); have n9 := aM_ (nG_ hg BK263.out); clear BK262; clear BK263; clear HB; have BK262 := n0; have BK263 := n1; have HB := n2; have BK264 := n3; have GW264 := n4; have GE264 := n5; have NB262_264 := n6; have NB264_262 := n7; have NB263_264 := n8; have NB264_263 := n9; clear n0 n1 n2 n3 n4 n5 n6 n7 n8 n9; clear hb hbox hg; have hnb6 := NB262_263.out; have hnc6 := NB263_262.out; have hnb7 := NB262_264.out; have hnc7 := NB264_262.out; have hcz8_0 : w5.cell? ⟨gb262, 0, none⟩ = some (.slice A0_0 l0_0.length c0_0) := (blk_cell BK262.out 0).trans rfl; have hfz8_0 := blk_frozen BK262.out 0) | ((with_reducible refine gate_callee (f := 71) rfl ?_); refine gL_ (some 6) Try.func71 #[.slice A0_0 l0_0.length c0_0] ?_; (with_reducible refine (laws_toWriteSS.calls k _ _ l0_0 t265 _ ?side1 ?side2 A2.out).mono ?_); (case side1 => exact cS_ (Kd.C_below HR0_0.out HB.out)); (case side2 => exact HC0_0.out); rintro e w9 ⟨v266, rfl, ho0, hb⟩; refine ⟨_, rfl, ?_⟩; have n0 := aM_ (Kd.R_lower ho0 (below_size (gB_ HB.out))); have n1 := aM_ (nB_ BK262.out hb); have n2 := aM_ (nB_ BK263.out hb); have n3 := aM_ (nB_ BK264.out hb); have n4 := aM_ (sT_ HB.out hb); clear BK262; clear BK263; clear BK264; clear HB; have HO267 := n0; have BK262 := n1; have BK263 := n2; have BK264 := n3; have HB := n4; clear n0 n1 n2 n3 n4; (try clear ho0); obtain ⟨Ao10, co10, eo10⟩ := Kd.R_slice HO267.out; subst eo10; have hnb11 := NB264_263.out; have hnc11 := NB263_264.out; have hcz12_0 : w9.cell? ⟨gb264, 0, none⟩ = some (.slice none 0 0) := (blk_cell BK264.out 0).trans rfl; have hfz12_0 := blk_frozen BK264.out 0; have hcz13_0 : w9.cell? ⟨gb263, 0, none⟩ = some (.slice none 0 0) := (blk_cell BK263.out 0).trans rfl; have hfz13_0 := blk_frozen BK263.out 0))
 refine bodyPost_ret (results_cell_row rfl _ _ gb263 24 #[.slice Ao10 t265.length co10] (0, 0) _ rfl (by (with_reducible repeat (first | refine bN_ ?_ _ | refine bD_ ?_ | refine bA_ ?_ _)); refine blk_put (cs := #[.slice none 0 0]) ?_ 0 _ rfl; (with_reducible repeat (first | refine bN_ ?_ _ | refine bD_ ?_ | refine bA_ ?_ _)); refine blk_far ?_ NB263_264.out _; (with_reducible repeat (first | refine bN_ ?_ _ | refine bD_ ?_ | refine bA_ ?_ _)); exact BK263.out) Try.underlying24 rfl (by kernel_rfl)) rfl ?_
 exact ⟨_, fR_, by (with_reducible repeat (first | apply rA_ | apply rN_ | apply rD_)); exact Kd.R_mono (Kd.R_far (p := ⟨gb263, 0, none⟩) (Kd.R_far (p := ⟨gb264, 0, none⟩) (Kd.R_types (Kd.R_types HO267.out BK264.out (by decide)) BK263.out (by decide)) (fun _ hk => hk.1.2) (.slice Ao10 t265.length co10)) (fun _ hk => hk.2) (.slice Ao10 t265.length co10)) (fun _ hk => trivial), gB_ HB.out⟩
end Go.Proofs.Ythbcnakmnbilhaa.PFnExactLoad
namespace Go.Proofs.Ythbcnakmnbilhaa.Marks
open Go.RowKit Go.Proofs.YthbcnakmnbilhaaW.PrintWords Go.Proofs.YthbcnakmnbilhaaW.PrintLast Go.Proofs.YthbcnakmnbilhaaW.PrintMore
set_option linter.unusedVariables false
def Sc (v v' : Value) : Prop := v' = v ∨ (∃ k n n', v = .int k n ∧ v' = .int k n') ∨ (∃ b b', v = .bool b ∧ v' = .bool b')
theorem Sc.refl (v : Value) : Sc v v := .inl rfl
theorem Sc.trans {a b c : Value} (h : Sc a b) (k : Sc b c) : Sc a c := by
  rcases h with rfl | ⟨_, _, _, rfl, rfl⟩ | ⟨_, _, rfl, rfl⟩
  · exact k
  · rcases k with rfl | ⟨_, _, n', h1, rfl⟩ | ⟨_, _, h1, _⟩
    · exact .inr (.inl ⟨_, _, _, rfl, rfl⟩)
    · cases h1
      exact .inr (.inl ⟨_, _, _, rfl, rfl⟩)
    · cases h1
  · rcases k with rfl | ⟨_, _, _, h1, _⟩ | ⟨_, b', h1, rfl⟩
    · exact .inr (.inr ⟨_, _, rfl, rfl⟩)
    · cases h1
    · exact .inr (.inr ⟨_, _, rfl, rfl⟩)
def Mk (P : Nat → Prop) (w w' : World) : Prop := Kept w w' P ∧ Below 0 w w' ∧ ∀ (g : Nat) (cs : Array Value) (t : TypeId), w.heap[g]? = some (.cells cs t (0, 0)) → ∃ cs' : Array Value, w'.heap[g]? = some (.cells cs' t (0, 0)) ∧ ∀ (j : Nat) v, cs[j]? = some v → ∃ v', cs'[j]? = some v' ∧ Sc v v'
section
variable {P P' : Nat → Prop} {w w' w1 W : World}
theorem Mk.refl (P : Nat → Prop) (w : World) : Mk P w w := ⟨Kept.refl w P, Below.refl _ _, fun g cs t h => ⟨cs, h, fun j v hj => ⟨v, hj, Sc.refl v⟩⟩⟩
theorem Mk.trans (h : Mk P w w1) (k : Mk P w1 w') : Mk P w w' := by
  refine ⟨h.1.then_ k.1 (fun _ h2 => .inl h2), h.2.1.trans k.2.1, fun g cs t hg => ?_⟩
  obtain ⟨cs1, h1, e1⟩ := h.2.2 g cs t hg
  obtain ⟨cs2, h2, e2⟩ := k.2.2 g cs1 t h1
  refine ⟨cs2, h2, fun j v hj => ?_⟩
  obtain ⟨v1, hv1, s1⟩ := e1 j v hj
  obtain ⟨v2, hv2, s2⟩ := e2 j v1 hv1
  exact ⟨v2, hv2, s1.trans s2⟩
theorem Mk.mono (h : Mk P w w') (hp : ∀ k, P k → P' k) : Mk P' w w' := ⟨h.1.mono hp, h.2⟩
theorem Mk.drewN (h : Mk P w W) (n : Nat) : Mk P w (W.drewN n) := ⟨h.1, pw_below_drewN h.2.1 n, h.2.2⟩
theorem Mk.drew (h : Mk P w W) : Mk P w W.drew := ⟨h.1, below_drew h.2.1, h.2.2⟩
theorem Mk.below (h : Mk P w w') {B : Nat} (hB : B ≤ w.heap.size) (hP : ∀ k, P k → B ≤ k) : Below B w w' := ⟨h.2.1.os, h.2.1.tape, h.2.1.output, h.2.1.size, fun k hk => h.1.2 k (Nat.lt_of_lt_of_le hk hB) (fun hp => by have := hP k hp; omega)⟩
theorem below_set0 (W : World) (a : Addr) (u : Value) : Below 0 W (W.setCell a u) := ⟨rfl, rfl, rfl, by simp [World.setCell], fun k hk => by omega⟩
theorem Mk.of_below (hb : Below w.heap.size w w') : Mk P w w' := ⟨Kept.of_below hb P, hb.mono (Nat.zero_le _), fun g cs t hg => ⟨cs, (hb.block g (blk_lt hg)).trans hg, fun j v hj => ⟨v, hj, Sc.refl v⟩⟩⟩
theorem Mk.set (h : Mk P w W) {g o : Nat} (hP : P g) {v u : Value} (hc : W.cell? ⟨g, o, none⟩ = some v) (hs : Sc v u) : Mk P w (W.setCell ⟨g, o, none⟩ u) := by
  refine ⟨h.1.setCell (.inl hP) u, h.2.1.trans (below_set0 _ _ _), fun g' cs t hg => ?_⟩
  obtain ⟨cs1, h1, e1⟩ := h.2.2 g' cs t hg
  by_cases e : g' = g
  · subst e
    refine ⟨_, blk_set h1 o u, fun j v0 hj => ?_⟩
    obtain ⟨v1, hv1, s1⟩ := e1 j v0 hj
    by_cases ej : j = o
    · subst ej
      have hv : v1 = v := Option.some.inj (hv1.symm.trans ((blk_cell h1 j).symm.trans hc))
      subst hv
      have hlt : j < cs1.size := (Array.getElem?_eq_some_iff.1 hv1).1
      exact ⟨u, by rw [Array.getElem?_setIfInBounds_self]; simp [hlt], s1.trans hs⟩
    · exact ⟨v1, by rw [Array.getElem?_setIfInBounds_ne (Ne.symm ej)]; exact hv1, s1⟩
  · exact ⟨cs1, (Below.heap_setCell W ⟨g, o, none⟩ u g' e).trans h1, e1⟩
end
def IntAt (w : World) (g o : Nat) : Prop := ∃ (cs : Array Value) (t : TypeId) (n : Int), w.heap[g]? = some (.cells cs t (0, 0)) ∧ cs[o]? = some (.int .i64 n)
def BoolAt (w : World) (g o : Nat) : Prop := ∃ (cs : Array Value) (t : TypeId) (b : Bool), w.heap[g]? = some (.cells cs t (0, 0)) ∧ cs[o]? = some (.bool b)
def SlAt (w : World) (g o : Nat) (A : Option Addr) (n c : Nat) : Prop := ∃ (cs : Array Value) (t : TypeId), w.heap[g]? = some (.cells cs t (0, 0)) ∧ cs[o]? = some (.slice A n c)
section
variable {P : Nat → Prop} {w w' : World} {g o n c : Nat} {A : Option Addr}
theorem IntAt.mk (h : IntAt w g o) (k : Mk P w w') : IntAt w' g o := by
  obtain ⟨cs, t, n, h1, h2⟩ := h
  obtain ⟨cs', h3, e⟩ := k.2.2 g cs t h1
  obtain ⟨v', h4, s⟩ := e o _ h2
  rcases s with rfl | ⟨_, _, n', h5, rfl⟩ | ⟨_, _, h5, _⟩
  · exact ⟨cs', t, n, h3, h4⟩
  · cases h5
    exact ⟨cs', t, n', h3, h4⟩
  · cases h5
theorem BoolAt.mk (h : BoolAt w g o) (k : Mk P w w') : BoolAt w' g o := by
  obtain ⟨cs, t, n, h1, h2⟩ := h
  obtain ⟨cs', h3, e⟩ := k.2.2 g cs t h1
  obtain ⟨v', h4, s⟩ := e o _ h2
  rcases s with rfl | ⟨_, _, n', h5, rfl⟩ | ⟨_, b', h5, rfl⟩
  · exact ⟨cs', t, n, h3, h4⟩
  · cases h5
  · exact ⟨cs', t, b', h3, h4⟩
theorem SlAt.mk (h : SlAt w g o A n c) (k : Mk P w w') : SlAt w' g o A n c := by
  obtain ⟨cs, t, h1, h2⟩ := h
  obtain ⟨cs', h3, e⟩ := k.2.2 g cs t h1
  obtain ⟨v', h4, s⟩ := e o _ h2
  rcases s with rfl | ⟨_, _, n', h5, rfl⟩ | ⟨_, b', h5, rfl⟩
  · exact ⟨cs', t, h3, h4⟩
  · cases h5
  · cases h5
theorem IntAt.cell (h : IntAt w g o) : ∃ n, w.cell? ⟨g, o, none⟩ = some (.int .i64 n) ∧ w.frozen? ⟨g, o, none⟩ = false := by
  obtain ⟨cs, t, n, h1, h2⟩ := h
  exact ⟨n, (blk_cell h1 o).trans h2, blk_frozen h1 o⟩
theorem BoolAt.cell (h : BoolAt w g o) : ∃ n, w.cell? ⟨g, o, none⟩ = some (.bool n) ∧ w.frozen? ⟨g, o, none⟩ = false := by
  obtain ⟨cs, t, n, h1, h2⟩ := h
  exact ⟨n, (blk_cell h1 o).trans h2, blk_frozen h1 o⟩
theorem SlAt.cell (h : SlAt w g o A n c) : w.cell? ⟨g, o, none⟩ = some (.slice A n c) := by
  obtain ⟨cs, t, h1, h2⟩ := h
  exact (blk_cell h1 o).trans h2
end
abbrev Cel := Nat × Nat × Bool
def cellv (b : Bool) (k : Int) : Value := if b = true then .bool (decide (Int.tmod k 3 = 0)) else .int .i64 k
def writes : World → List Cel → Int → World
  | w, [], _ => w
  | w, c :: L, k => writes (w.setCell ⟨c.1, c.2.1, none⟩ (cellv c.2.2 k)) L (k + 1)
theorem writes_append : ∀ (L M : List Cel) (w : World) (k : Int), writes w (L ++ M) k = writes (writes w L k) M (k + L.length)
  | [], M, w, k => by simp [writes]
  | c :: L, M, w, k => by
    rw [List.cons_append, writes, writes, writes_append L M, List.length_cons]
    congr 1
    omega
theorem drewN_set (w : World) (n : Nat) (a : Addr) (v : Value) : (w.drewN n).setCell a v = (w.setCell a v).drewN n := rfl
theorem writes_drewN : ∀ (L : List Cel) (w : World) (n : Nat) (k : Int), writes (w.drewN n) L k = (writes w L k).drewN n
  | [], w, n, k => rfl
  | c :: L, w, n, k => by
    rw [writes, writes, drewN_set, writes_drewN L]
def Wr (w : World) (L : List Cel) (k : Int) (w' : World) : Prop := ∃ n, w' = (writes w L k).drewN n
section
variable {w w' w1 w2 : World} {L M : List Cel} {k k2 : Int}
theorem Wr.refl (w : World) (k : Int) : Wr w [] k w := ⟨0, rfl⟩
theorem Wr.drewN (h : Wr w L k w') (n : Nat) : Wr w L k (w'.drewN n) := by
  obtain ⟨m, rfl⟩ := h
  exact ⟨m + n, World.drewN_drewN ..⟩
theorem Wr.trans (h : Wr w L k w1) (h2 : Wr w1 M k2 w2) (e : k2 = k + L.length) : Wr w (L ++ M) k w2 := by
  obtain ⟨m, rfl⟩ := h
  obtain ⟨n, rfl⟩ := h2
  subst e
  rw [writes_drewN, ← writes_append]
  exact ⟨m + n, World.drewN_drewN ..⟩
theorem Wr.set (h : Wr w L k w') {g o : Nat} (b : Bool) {v : Value} (e : v = cellv b (k + L.length)) : Wr w (L ++ [(g, o, b)]) k (w'.setCell ⟨g, o, none⟩ v) :=
  h.trans (k2 := k + L.length) (M := [(g, o, b)]) ⟨0, by subst e; rfl⟩ rfl
theorem Wr.cast (h : Wr w L k w') (e : L = M) : Wr w M k w' := e ▸ h
end
inductive Ty where
  | int | bool | pair (a b : Ty) | sl (a : Ty)
def Ty.sz : Ty → Nat
  | .int => 1
  | .bool => 1
  | .sl _ => 1
  | .pair a b => a.sz + b.sz
def cat (Ls : Nat → List Cel) (n : Nat) : List Cel := (List.range n).flatMap Ls
theorem cat_succ (Ls : Nat → List Cel) (n : Nat) : cat Ls (n + 1) = cat Ls n ++ Ls n := by simp [cat, List.range_succ]
theorem cat_le (Ls : Nat → List Cel) {j n : Nat} (h : j < n) : (cat Ls j).length + (Ls j).length ≤ (cat Ls n).length := by
  have h1 : ∀ d, (cat Ls (j + 1)).length ≤ (cat Ls (j + 1 + d)).length := by
    intro d
    induction d with
    | zero => exact Nat.le_refl _
    | succ d ih => rw [← Nat.add_assoc, cat_succ Ls (j + 1 + d), List.length_append]; omega
  have h2 := h1 (n - (j + 1))
  rw [show j + 1 + (n - (j + 1)) = n by omega, cat_succ, List.length_append] at h2
  exact h2
def Vis (P : Nat → Prop) (w : World) : Ty → Nat → Nat → List Cel → Prop
  | .int, g, o, L => L = [(g, o, false)] ∧ IntAt w g o
  | .bool, g, o, L => L = [(g, o, true)] ∧ BoolAt w g o
  | .pair a b, g, o, L => ∃ L1 L2, L = L1 ++ L2 ∧ Vis P w a g o L1 ∧ Vis P w b g (o + a.sz) L2
  | .sl a, g, o, L => ∃ A n c, SlAt w g o A n c ∧ n ≤ 9223372036854775807 ∧ ∃ Ls, L = cat Ls n ∧ (0 < n → ∃ g', A = some ⟨g', 0, none⟩ ∧ P g' ∧ ∀ i, i < n → Vis P w a g' (i * a.sz) (Ls i))
def RowV (P : Nat → Prop) (w : World) (a : Ty) (A : Option Addr) (n : Nat) (L : List Cel) : Prop := n ≤ 9223372036854775807 ∧ ∃ Ls, L = cat Ls n ∧ (0 < n → ∃ g', A = some ⟨g', 0, none⟩ ∧ P g' ∧ ∀ i, i < n → Vis P w a g' (i * a.sz) (Ls i))
theorem Vis.mk {P Q : Nat → Prop} {w w' : World} (k : Mk Q w w') : ∀ {t : Ty} {g o : Nat} {L : List Cel}, Vis P w t g o L → Vis P w' t g o L
  | .int, g, o, L, h => ⟨h.1, h.2.mk k⟩
  | .bool, g, o, L, h => ⟨h.1, h.2.mk k⟩
  | .pair a b, g, o, L, ⟨L1, L2, e, h1, h2⟩ => ⟨L1, L2, e, Vis.mk k h1, Vis.mk k h2⟩
  | .sl a, g, o, L, ⟨A, n, c, hs, hb, Ls, e, h⟩ => ⟨A, n, c, hs.mk k, hb, Ls, e, fun hn => by
    obtain ⟨g', e', hp, hi⟩ := h hn
    exact ⟨g', e', hp, fun i hl => Vis.mk k (hi i hl)⟩⟩
theorem RowV.mk {P Q : Nat → Prop} {w w' : World} (k : Mk Q w w') {t : Ty} {A : Option Addr} {n : Nat} {L : List Cel} (h : RowV P w t A n L) : RowV P w' t A n L := by
  obtain ⟨hb, Ls, e, h⟩ := h
  exact ⟨hb, Ls, e, fun hn => by
    obtain ⟨g', e', hp, hi⟩ := h hn
    exact ⟨g', e', hp, fun i hl => Vis.mk k (hi i hl)⟩⟩
def HeldAt (w : World) (L : List Cel) (k : Int) : Prop := ∀ (j : Nat) (c : Cel), L[j]? = some c → w.cell? ⟨c.1, c.2.1, none⟩ = some (cellv c.2.2 (k + j))
section
variable {w w' : World} {L M : List Cel} {k : Int}
theorem HeldAt.left (h : HeldAt w (L ++ M) k) : HeldAt w L k := fun j c hj => h j c (by rw [List.getElem?_append_left (List.getElem?_eq_some_iff.1 hj).1]; exact hj)
theorem HeldAt.right (h : HeldAt w (L ++ M) k) : HeldAt w M (k + L.length) := fun j c hj => by
  have := h (L.length + j) c (by rw [List.getElem?_append_right (by omega), Nat.add_sub_cancel_left]; exact hj)
  rw [this]
  congr 2
  push_cast
  omega
theorem HeldAt.one {g o : Nat} {b : Bool} (h : HeldAt w [(g, o, b)] k) : w.cell? ⟨g, o, none⟩ = some (cellv b k) := by
  have := h 0 (g, o, b) rfl
  simpa using this
theorem HeldAt.cat {Ls : Nat → List Cel} {n j : Nat} (h : HeldAt w (cat Ls n) k) (hj : j < n) : HeldAt w (Ls j) (k + (Marks.cat Ls j).length) := by
  have e : ∃ T, Marks.cat Ls n = Marks.cat Ls j ++ (Ls j ++ T) := by
    have h1 : ∀ d, ∃ T, Marks.cat Ls (j + 1 + d) = Marks.cat Ls (j + 1) ++ T := by
      intro d
      induction d with
      | zero => exact ⟨[], by simp⟩
      | succ d ih =>
        obtain ⟨T, e⟩ := ih
        exact ⟨T ++ Ls (j + 1 + d), by rw [← Nat.add_assoc, cat_succ Ls (j + 1 + d), e, List.append_assoc]⟩
    obtain ⟨T, e⟩ := h1 (n - (j + 1))
    rw [show j + 1 + (n - (j + 1)) = n by omega, cat_succ, List.append_assoc] at e
    exact ⟨T, e⟩
  obtain ⟨T, e⟩ := e
  rw [e] at h
  exact h.right.left
end
theorem RowV.drewN {P : Nat → Prop} {w : World} {t : Ty} {A : Option Addr} {n : Nat} {L : List Cel} (h : RowV P w t A n L) (m : Nat) : RowV P (w.drewN m) t A n L := RowV.mk (Q := fun _ => False) ((Mk.refl _ w).drewN m) h
theorem HeldAt.drewN {w : World} {L : List Cel} {k : Int} (h : HeldAt w L k) (m : Nat) : HeldAt (w.drewN m) L k := h
theorem wrap_in {n : Int} (h0 : -9223372036854775808 ≤ n) (h1 : n ≤ 9223372036854775807) : wrap64 n = n := by
  unfold wrap64
  omega
end Go.Proofs.Ythbcnakmnbilhaa.Marks
namespace Go.Proofs.Ythbcnakmnbilhaa.Marks
open Go.RowKit Go.Proofs.YthbcnakmnbilhaaW.PrintWords Go.Proofs.YthbcnakmnbilhaaW.PrintLast Go.Proofs.YthbcnakmnbilhaaW.PrintMore
set_option linter.unusedVariables false
set_option linter.unusedSimpArgs false
set_option maxHeartbeats 8000000 in
set_option maxRecDepth 100000 in
theorem wr_markIntS (P : Nat → Prop) (w : World) (A : Option Addr) (n c : Nat) (k : Int) (L : List Cel) (h : RowV P w .int A n L) (h0 : 0 ≤ k) (hk : k + (L.length : Int) ≤ 4611686018427387904) :
    Calls Try.prog 34 #[.slice A n c, .int .i64 k] w fun e w' => e = .returned (.int .i64 (k + (L.length : Int))) ∧ Mk P w w' ∧ Wr w L k w' := by
  obtain ⟨hn, Ls, rfl, h⟩ := h
  go_enter Try.func34, Try.ntmps34
  go_wp2
  go_loopg [1, 5] n (fun kq v1 v5 w' => ∃ (x1 x5 : Int), v1 = .int .i64 x1 ∧ v5 = .int .i64 x5 ∧ Aside0 (0 ≤ x5 ∧ x5 + (kq : Int) = (n : Int) ∧ x1 = k + ((cat Ls x5.toNat).length : Int)) ∧ Aside0 (Mk P w w') ∧ Aside0 (Wr w (cat Ls x5.toNat) k w'))
  case atStart => exact ⟨k, 0, rfl, rfl, ⟨by simp [cat]⟩, ⟨Mk.refl P w⟩, ⟨Wr.refl w k⟩⟩
  case round =>
    obtain ⟨x1, x5, rfl, rfl, HJ, HM0, HW0⟩ := hrel
    obtain ⟨j0, j1, jx⟩ := HJ.out
    by_cases c3 : x5 < (n : Int)
    · have c3b0 : decide (x5 < (n : Int)) = true := decide_eq_true c3
      obtain ⟨g, rfl, hp, hi⟩ := h (by omega)
      have cl := cat_le Ls (j := x5.toNat) (n := n) (by omega)
      have cs_ := cat_succ Ls x5.toNat
      have hv := hi x5.toNat (by omega)
      generalize hLs : Ls x5.toNat = E at cl cs_ hv
      obtain ⟨e0, i0⟩ := hv
      have i0 : IntAt w g (x5.toNat) := (by first | simpa using i0 | (simp [Ty.sz] at i0; exact i0) | exact i0)
      have hE : E = [(g, x5.toNat, false)] := by
        skip; (try rw [e0]); (try first | rfl | simp [Ty.sz])
      have hEl : E.length = 1 := by rw [hE]; (try simp only [List.length_append, List.length_cons, List.length_nil, Nat.zero_add])
      have p5 : (0 ≤ x5) = True := eq_true j0
      have q5 : (x5 < (n : Int)) = True := eq_true c3
      rw [hEl] at cl
      have e5 : wrap64 (x5 + 1) = x5 + 1 := wrap_in (by omega) (by omega)
      have HE5 := Aside0.mk e5
      have HC0 : Aside0 (x1 = k + ((cat Ls x5.toNat).length : Int)) := ⟨jx⟩
      have HCL := Aside0.mk cl
      obtain ⟨m0, hx0, hf0⟩ := (i0.mk HM0.out).cell
      have HM1 := Aside0.mk (HM0.out.set (u := .int .i64 (x1)) hp hx0 (.inr (.inl ⟨_, _, _, rfl, rfl⟩)))
      have HW1 := Aside0.mk (HW0.out.set (g := g) (o := x5.toNat) false (v := .int .i64 (x1)) (by rw [HC0.out]; rfl))
      have HC1 : Aside0 (wrap64 (x1 + 1) = k + ((cat Ls x5.toNat ++ [(g, x5.toNat, false)]).length : Int)) := ⟨by have h1_ := HC0.out; have h2_ := HCL.out; rw [List.length_append, List.length_singleton]; rw [wrap_in (n := x1 + 1)] <;> (push_cast; (try simp only [List.length_append, List.length_cons, List.length_nil, Nat.zero_add] at h1_); (try simp only [List.length_append, List.length_cons, List.length_nil, Nat.zero_add] at h2_); (try simp only [List.length_append, List.length_cons, List.length_nil, Nat.zero_add]); omega)⟩
      clear HJ jx cl hEl e5
      go_wp2
      go_roundg (n - x5.toNat - 1)
      case measure => omega
      case rel => exact ⟨_, _, rfl, rfl, ⟨by have h1_ := HC1.out; have h5_ := HE5.out; refine ⟨by omega, by omega, ?_⟩; rw [h1_]; (try rw [h5_]); rw [show (x5 + 1).toNat = x5.toNat + 1 by omega, cs_, hE]; (try simp only [List.append_assoc])⟩, HM1, ⟨HW1.out.cast (by (try rw [HE5.out]); rw [show (x5 + 1).toNat = x5.toNat + 1 by omega, cs_, hE]; (try simp only [List.append_assoc]))⟩⟩
    · have c3b0 : decide (x5 < (n : Int)) = false := decide_eq_false c3
      have hx1 : x5.toNat = n := by omega
      rw [hx1] at jx HW0
      subst jx
      go_wp2
      go_ret
      exact ⟨rfl, HM0.out, HW0.out⟩
set_option maxHeartbeats 8000000 in
set_option maxRecDepth 100000 in
theorem hd_heldIntS (P : Nat → Prop) (w : World) (A : Option Addr) (n c : Nat) (k : Int) (L : List Cel) (h : RowV P w .int A n L) (hv : HeldAt w L k) (h0 : 0 ≤ k) (hk : k + (L.length : Int) ≤ 4611686018427387904) :
    Calls Try.prog 35 #[.slice A n c, .int .i64 k] w fun e w' => e = .returned (.int .i64 (k + (L.length : Int))) ∧ Drawn0 w w' := by
  obtain ⟨hn, Ls, rfl, h⟩ := h
  have HV := Aside0.mk hv
  clear hv
  go_enter Try.func35, Try.ntmps35
  go_wp2
  go_loopg [1, 5] n (fun kq v1 v5 w' => ∃ (x1 x5 : Int), v1 = .int .i64 x1 ∧ v5 = .int .i64 x5 ∧ Aside0 (0 ≤ x5 ∧ x5 + (kq : Int) = (n : Int) ∧ x1 = k + ((cat Ls x5.toNat).length : Int)) ∧ Drawn0 w w')
  case atStart => exact ⟨k, 0, rfl, rfl, ⟨by simp [cat]⟩, by repeat (first | exact Drawn0.refl _ | apply Drawn0.step)⟩
  case round =>
    obtain ⟨x1, x5, rfl, rfl, HJ, ⟨m1, rfl⟩⟩ := hrel
    obtain ⟨j0, j1, jx⟩ := HJ.out
    by_cases c3 : x5 < (n : Int)
    · have c3b0 : decide (x5 < (n : Int)) = true := decide_eq_true c3
      obtain ⟨g, rfl, hp, hi⟩ := h (by omega)
      have cl := cat_le Ls (j := x5.toNat) (n := n) (by omega)
      have cs_ := cat_succ Ls x5.toNat
      have hv := hi x5.toNat (by omega)
      have HE_ := Aside0.mk (HV.out.cat (j := x5.toNat) (by omega))
      generalize hLs : Ls x5.toNat = E at cl cs_ hv HE_
      obtain ⟨e0, -⟩ := hv
      have hE : E = [(g, x5.toNat, false)] := by
        skip; (try rw [e0]); (try first | rfl | simp [Ty.sz])
      have hEl : E.length = 1 := by rw [hE]; (try simp only [List.length_append, List.length_cons, List.length_nil, Nat.zero_add]); (try omega)
      have p5 : (0 ≤ x5) = True := eq_true j0
      have q5 : (x5 < (n : Int)) = True := eq_true c3
      rw [hEl] at cl
      rw [hE] at HE_
      have e5 : wrap64 (x5 + 1) = x5 + 1 := wrap_in (by omega) (by omega)
      have HE5 := Aside0.mk e5
      have HCL := Aside0.mk cl
      have HC0 : Aside0 (x1 = k + ((cat Ls x5.toNat).length : Int)) := ⟨jx⟩
      have hx0 : w.cell? ⟨g, x5.toNat, none⟩ = some (.int .i64 (x1)) := by rw [HeldAt.one (HE_.out), ← HC0.out]; rfl
      have HC1 : Aside0 (wrap64 (x1 + 1) = k + ((cat Ls x5.toNat).length : Int) + (([(g, x5.toNat, false)] : List Cel).length : Int)) := ⟨by have h1_ := HC0.out; have h2_ := HCL.out; (try simp only [List.length_singleton] at h1_); simp only [List.length_singleton]; rw [wrap_in (n := x1 + 1)] <;> ((try push_cast at h1_); (try push_cast); omega)⟩
      clear HJ jx cl hEl e5 HE_
      go_wp2
      go_roundg (n - x5.toNat - 1)
      case measure => omega
      case rel => exact ⟨_, _, rfl, rfl, ⟨by have h1_ := HC1.out; have h5_ := HE5.out; refine ⟨by omega, by omega, ?_⟩; rw [h1_]; (try rw [h5_]); rw [show (x5 + 1).toNat = x5.toNat + 1 by omega, cs_, hE]; (try simp only [List.length_singleton]); (try simp only [List.length_append, List.length_cons, List.length_nil, Nat.zero_add]); push_cast; omega⟩, by repeat (first | exact Drawn0.refl _ | apply Drawn0.step)⟩
    · have c3b0 : decide (x5 < (n : Int)) = false := decide_eq_false c3
      have hx1 : x5.toNat = n := by omega
      rw [hx1] at jx
      subst jx
      go_wp2
      go_ret
      exact ⟨rfl, by repeat (first | exact Drawn0.refl _ | apply Drawn0.step)⟩
set_option maxHeartbeats 8000000 in
set_option maxRecDepth 100000 in
theorem wr_markWriteS (P : Nat → Prop) (w : World) (A : Option Addr) (n c : Nat) (k : Int) (L : List Cel) (h : RowV P w (.pair .int (.sl .int)) A n L) (h0 : 0 ≤ k) (hk : k + (L.length : Int) ≤ 4611686018427387904) :
    Calls Try.prog 92 #[.slice A n c, .int .i64 k] w fun e w' => e = .returned (.int .i64 (k + (L.length : Int))) ∧ Mk P w w' ∧ Wr w L k w' := by
  obtain ⟨hn, Ls, rfl, h⟩ := h
  go_enter Try.func92, Try.ntmps92
  go_wp2
  go_loopg [1, 5] n (fun kq v1 v5 w' => ∃ (x1 x5 : Int), v1 = .int .i64 x1 ∧ v5 = .int .i64 x5 ∧ Aside0 (0 ≤ x5 ∧ x5 + (kq : Int) = (n : Int) ∧ x1 = k + ((cat Ls x5.toNat).length : Int)) ∧ Aside0 (Mk P w w') ∧ Aside0 (Wr w (cat Ls x5.toNat) k w'))
  case atStart => exact ⟨k, 0, rfl, rfl, ⟨by simp [cat]⟩, ⟨Mk.refl P w⟩, ⟨Wr.refl w k⟩⟩
  case round =>
    obtain ⟨x1, x5, rfl, rfl, HJ, HM0, HW0⟩ := hrel
    obtain ⟨j0, j1, jx⟩ := HJ.out
    by_cases c3 : x5 < (n : Int)
    · have c3b0 : decide (x5 < (n : Int)) = true := decide_eq_true c3
      obtain ⟨g, rfl, hp, hi⟩ := h (by omega)
      have cl := cat_le Ls (j := x5.toNat) (n := n) (by omega)
      have cs_ := cat_succ Ls x5.toNat
      have hv := hi x5.toNat (by omega)
      generalize hLs : Ls x5.toNat = E at cl cs_ hv
      obtain ⟨E0, D0, eE0, v0, r0⟩ := hv
      obtain ⟨e0, i0⟩ := v0
      have i0 : IntAt w g (x5.toNat * 2) := (by first | simpa using i0 | (simp [Ty.sz] at i0; exact i0) | exact i0)
      obtain ⟨B1, n1, c1, s1, V1⟩ := r0
      have s1 : SlAt w g (x5.toNat * 2 + 1) B1 n1 c1 := (by first | simpa using s1 | (simp [Ty.sz] at s1; exact s1) | exact s1)
      have V1 : ∃ M, D0 = M ∧ RowV P w .int B1 n1 M := ⟨_, rfl, V1⟩
      obtain ⟨M1, eM1, V1⟩ := V1
      have hE : E = [(g, x5.toNat * 2, false)] ++ M1 := by
        rw [eE0]; skip; (try rw [e0]); (try rw [eM1]); (try first | rfl | simp [Ty.sz])
      have hEl : E.length = 1 + M1.length := by rw [hE]; (try simp only [List.length_append, List.length_cons, List.length_nil, Nat.zero_add])
      have p5 : (0 ≤ x5) = True := eq_true j0
      have q5 : (x5 < (n : Int)) = True := eq_true c3
      rw [hEl] at cl
      have e5 : wrap64 (x5 + 1) = x5 + 1 := wrap_in (by omega) (by omega)
      have HE5 := Aside0.mk e5
      have HC0 : Aside0 (x1 = k + ((cat Ls x5.toNat).length : Int)) := ⟨jx⟩
      have HCL := Aside0.mk cl
      obtain ⟨m0, hx0, hf0⟩ := (i0.mk HM0.out).cell
      have HM1 := Aside0.mk (HM0.out.set (u := .int .i64 (x1)) hp hx0 (.inr (.inl ⟨_, _, _, rfl, rfl⟩)))
      have HW1 := Aside0.mk (HW0.out.set (g := g) (o := x5.toNat * 2) false (v := .int .i64 (x1)) (by rw [HC0.out]; rfl))
      have HC1 : Aside0 (wrap64 (x1 + 1) = k + ((cat Ls x5.toNat ++ [(g, x5.toNat * 2, false)]).length : Int)) := ⟨by have h1_ := HC0.out; have h2_ := HCL.out; rw [List.length_append, List.length_singleton]; rw [wrap_in (n := x1 + 1)] <;> (push_cast; (try simp only [List.length_append, List.length_cons, List.length_nil, Nat.zero_add] at h1_); (try simp only [List.length_append, List.length_cons, List.length_nil, Nat.zero_add] at h2_); (try simp only [List.length_append, List.length_cons, List.length_nil, Nat.zero_add]); omega)⟩
      have hs1 := (s1.mk HM1.out).cell
      have hV1 := Aside0.mk (V1.mk HM1.out)
      have HH1 : Aside0 (0 ≤ wrap64 (x1 + 1) ∧ wrap64 (x1 + 1) + (M1.length : Int) ≤ 4611686018427387904) := ⟨by have h1_ := HC1.out; have h2_ := HCL.out; (try simp only [List.length_append, List.length_cons, List.length_nil, Nat.zero_add] at h1_); (try simp only [List.length_append, List.length_cons, List.length_nil, Nat.zero_add] at h2_); omega⟩
      clear HJ jx cl hEl e5
      go_wp2_with (first | ((with_reducible refine gate_callee (f := 34) rfl ?_); refine goesL_ (some 25) rfl rfl Try.func34 (by kernel_rfl) rfl #[.slice B1 n1 c1, .int .i64 (wrap64 (x1 + 1))] rfl (by (try simp only [List.map_toArray, List.map_cons, List.map_nil]); first | done | rfl | (simp; done)) ?_; refine (wr_markIntS P _ B1 n1 c1 (wrap64 (x1 + 1)) M1 hV1.out HH1.out.1 HH1.out.2).mono ?_; rintro e w3 ⟨rfl, hm, hw⟩; refine ⟨_, rfl, ?_⟩; have HM2 := Aside0.mk (HM1.out.trans hm); have HW2 := Aside0.mk (HW1.out.trans hw HC1.out); clear hm hw; have HC2 : Aside0 (wrap64 (x1 + 1) + (M1.length : Int) = k + ((cat Ls x5.toNat ++ [(g, x5.toNat * 2, false)] ++ M1).length : Int)) := ⟨by have h1_ := HC1.out; rw [List.length_append]; push_cast; omega⟩))
      go_roundg (n - x5.toNat - 1)
      case measure => omega
      case rel => exact ⟨_, _, rfl, rfl, ⟨by have h1_ := HC2.out; have h5_ := HE5.out; refine ⟨by omega, by omega, ?_⟩; rw [h1_]; (try rw [h5_]); rw [show (x5 + 1).toNat = x5.toNat + 1 by omega, cs_, hE]; (try simp only [List.append_assoc])⟩, HM2, ⟨HW2.out.cast (by (try rw [HE5.out]); rw [show (x5 + 1).toNat = x5.toNat + 1 by omega, cs_, hE]; (try simp only [List.append_assoc]))⟩⟩
    · have c3b0 : decide (x5 < (n : Int)) = false := decide_eq_false c3
      have hx1 : x5.toNat = n := by omega
      rw [hx1] at jx HW0
      subst jx
      go_wp2
      go_ret
      exact ⟨rfl, HM0.out, HW0.out⟩
set_option maxHeartbeats 8000000 in
set_option maxRecDepth 100000 in
theorem wr_markWriteSS (P : Nat → Prop) (w : World) (A : Option Addr) (n c : Nat) (k : Int) (L : List Cel) (h : RowV P w (.sl (.pair .int (.sl .int))) A n L) (h0 : 0 ≤ k) (hk : k + (L.length : Int) ≤ 4611686018427387904) :
    Calls Try.prog 53 #[.slice A n c, .int .i64 k] w fun e w' => e = .returned (.int .i64 (k + (L.length : Int))) ∧ Mk P w w' ∧ Wr w L k w' := by
  obtain ⟨hn, Ls, rfl, h⟩ := h
  go_enter Try.func53, Try.ntmps53
  go_wp2
  go_loopg [1, 5] n (fun kq v1 v5 w' => ∃ (x1 x5 : Int), v1 = .int .i64 x1 ∧ v5 = .int .i64 x5 ∧ Aside0 (0 ≤ x5 ∧ x5 + (kq : Int) = (n : Int) ∧ x1 = k + ((cat Ls x5.toNat).length : Int)) ∧ Aside0 (Mk P w w') ∧ Aside0 (Wr w (cat Ls x5.toNat) k w'))
  case atStart => exact ⟨k, 0, rfl, rfl, ⟨by simp [cat]⟩, ⟨Mk.refl P w⟩, ⟨Wr.refl w k⟩⟩
  case round =>
    obtain ⟨x1, x5, rfl, rfl, HJ, HM0, HW0⟩ := hrel
    obtain ⟨j0, j1, jx⟩ := HJ.out
    by_cases c3 : x5 < (n : Int)
    · have c3b0 : decide (x5 < (n : Int)) = true := decide_eq_true c3
      obtain ⟨g, rfl, hp, hi⟩ := h (by omega)
      have cl := cat_le Ls (j := x5.toNat) (n := n) (by omega)
      have cs_ := cat_succ Ls x5.toNat
      have hv := hi x5.toNat (by omega)
      generalize hLs : Ls x5.toNat = E at cl cs_ hv
      obtain ⟨B0, n0, c0, s0, V0⟩ := hv
      have s0 : SlAt w g (x5.toNat) B0 n0 c0 := (by first | simpa using s0 | (simp [Ty.sz] at s0; exact s0) | exact s0)
      have V0 : ∃ M, E = M ∧ RowV P w (.pair .int (.sl .int)) B0 n0 M := ⟨_, rfl, V0⟩
      obtain ⟨M0, eM0, V0⟩ := V0
      have hE : E = M0 := by
        skip; (try rw [eM0]); (try first | rfl | simp [Ty.sz])
      have hEl : E.length = M0.length := by rw [hE]; (try simp only [List.length_append, List.length_cons, List.length_nil, Nat.zero_add])
      have p5 : (0 ≤ x5) = True := eq_true j0
      have q5 : (x5 < (n : Int)) = True := eq_true c3
      rw [hEl] at cl
      have e5 : wrap64 (x5 + 1) = x5 + 1 := wrap_in (by omega) (by omega)
      have HE5 := Aside0.mk e5
      have HC0 : Aside0 (x1 = k + ((cat Ls x5.toNat).length : Int)) := ⟨jx⟩
      have HCL := Aside0.mk cl
      have hs0 := (s0.mk HM0.out).cell
      have hV0 := Aside0.mk (V0.mk HM0.out)
      have HH0 : Aside0 (0 ≤ x1 ∧ x1 + (M0.length : Int) ≤ 4611686018427387904) := ⟨by have h1_ := HC0.out; have h2_ := HCL.out; (try simp only [List.length_append, List.length_cons, List.length_nil, Nat.zero_add] at h1_); (try simp only [List.length_append, List.length_cons, List.length_nil, Nat.zero_add] at h2_); omega⟩
      clear HJ jx cl hEl e5
      go_wp2_with (first | ((with_reducible refine gate_callee (f := 92) rfl ?_); refine goesL_ (some 17) rfl rfl Try.func92 (by kernel_rfl) rfl #[.slice B0 n0 c0, .int .i64 (x1)] rfl (by (try simp only [List.map_toArray, List.map_cons, List.map_nil]); first | done | rfl | (simp; done)) ?_; refine (wr_markWriteS P _ B0 n0 c0 (x1) M0 hV0.out HH0.out.1 HH0.out.2).mono ?_; rintro e w2 ⟨rfl, hm, hw⟩; refine ⟨_, rfl, ?_⟩; have HM1 := Aside0.mk (HM0.out.trans hm); have HW1 := Aside0.mk (HW0.out.trans hw HC0.out); clear hm hw; have HC1 : Aside0 (x1 + (M0.length : Int) = k + ((cat Ls x5.toNat ++ M0).length : Int)) := ⟨by have h1_ := HC0.out; rw [List.length_append]; push_cast; omega⟩))
      go_roundg (n - x5.toNat - 1)
      case measure => omega
      case rel => exact ⟨_, _, rfl, rfl, ⟨by have h1_ := HC1.out; have h5_ := HE5.out; refine ⟨by omega, by omega, ?_⟩; rw [h1_]; (try rw [h5_]); rw [show (x5 + 1).toNat = x5.toNat + 1 by omega, cs_, hE]; (try simp only [List.append_assoc])⟩, HM1, ⟨HW1.out.cast (by (try rw [HE5.out]); rw [show (x5 + 1).toNat = x5.toNat + 1 by omega, cs_, hE]; (try simp only [List.append_assoc]))⟩⟩
    · have c3b0 : decide (x5 < (n : Int)) = false := decide_eq_false c3
      have hx1 : x5.toNat = n := by omega
      rw [hx1] at jx HW0
      subst jx
      go_wp2
      go_ret
      exact ⟨rfl, HM0.out, HW0.out⟩
end Go.Proofs.Ythbcnakmnbilhaa.Marks
namespace Go.Proofs.Ythbcnakmnbilhaa.Marks
open Go.RowKit Go.Proofs.YthbcnakmnbilhaaW.PrintWords Go.Proofs.YthbcnakmnbilhaaW.PrintLast Go.Proofs.YthbcnakmnbilhaaW.PrintMore
set_option linter.unusedVariables false
set_option linter.unusedSimpArgs false
def addr2 (c : Cel) : Nat × Nat := (c.1, c.2.1)
def CellAt (w : World) (g o : Nat) : Prop := ∃ (cs : Array Value) (t : TypeId), w.heap[g]? = some (.cells cs t (0, 0)) ∧ o < cs.size
section
variable {P Q : Nat → Prop} {w w' w0 w1 w2 W W' : World} {g o n : Nat} {k k2 : Int} {L M : List Cel} {A : Option Addr} {t : Ty}
theorem CellAt.set (h : CellAt w g o) (b p : Nat) (v : Value) : CellAt (w.setCell ⟨b, p, none⟩ v) g o := by
  obtain ⟨cs, t, h1, h2⟩ := h
  by_cases e : g = b
  · subst e
    exact ⟨_, t, blk_set h1 p v, by simpa using h2⟩
  · exact ⟨cs, t, blk_far h1 (p := ⟨b, p, none⟩) e v, h2⟩
theorem IntAt.at_ (h : IntAt w g o) : CellAt w g o := by
  obtain ⟨cs, t, n, h1, h2⟩ := h
  exact ⟨cs, t, h1, (Array.getElem?_eq_some_iff.1 h2).1⟩
theorem BoolAt.at_ (h : BoolAt w g o) : CellAt w g o := by
  obtain ⟨cs, t, n, h1, h2⟩ := h
  exact ⟨cs, t, h1, (Array.getElem?_eq_some_iff.1 h2).1⟩
theorem CellAt.self (h : CellAt w g o) (v : Value) : (w.setCell ⟨g, o, none⟩ v).cell? ⟨g, o, none⟩ = some v := by
  obtain ⟨cs, t, h1, h2⟩ := h
  rw [blk_cell (blk_set h1 o v) o, Array.getElem?_setIfInBounds_self]
  simp [h2]
theorem writes_other : ∀ (L : List Cel) (w : World) (k : Int) (g o : Nat), (g, o) ∉ L.map addr2 → (writes w L k).cell? ⟨g, o, none⟩ = w.cell? ⟨g, o, none⟩
  | [], w, k, g, o, _ => rfl
  | c :: L, w, k, g, o, h => by
    rw [List.map_cons, List.mem_cons, not_or] at h
    rw [writes, writes_other L _ _ _ _ h.2]
    exact World.cell?_setCell_other (w := w) (a := ⟨c.1, c.2.1, none⟩) (b := ⟨g, o, none⟩) (v := cellv c.2.2 k) (h := fun e => h.1 (by injection e with e1 e2; rw [addr2, e1, e2]))
theorem held_writes : ∀ (L : List Cel) (w : World) (k : Int), (∀ c ∈ L, CellAt w c.1 c.2.1) → (L.map addr2).Nodup → HeldAt (writes w L k) L k
  | [], w, k, _, _ => fun j c hj => by simp at hj
  | c :: L, w, k, hc, hn => by
    rw [List.map_cons, List.nodup_cons] at hn
    intro j d hj
    cases j with
    | zero =>
      have e : d = c := by simpa using hj.symm
      subst e
      rw [writes, writes_other L _ _ d.1 d.2.1 (by exact hn.1), (hc d List.mem_cons_self).self]
      simp
    | succ j =>
      have h2 := held_writes L (w.setCell ⟨c.1, c.2.1, none⟩ (cellv c.2.2 k)) (k + 1) (fun d hd => (hc d (List.mem_cons_of_mem _ hd)).set _ _ _) hn.2 j d (by simpa using hj)
      rw [writes, h2]
      congr 2
      push_cast
      omega
theorem HeldAt.of_heap (h : HeldAt w L k) (hh : ∀ c ∈ L, w'.heap[c.1]? = w.heap[c.1]?) : HeldAt w' L k := fun j c hj => by
  have := hh c (List.mem_of_getElem? hj)
  rw [← h j c hj]
  simp [World.cell?, this]
theorem set_heap (w w' : World) (a : Addr) (v : Value) (g : Nat) (h : w.heap[g]? = w'.heap[g]?) : (w.setCell a v).heap[g]? = (w'.setCell a v).heap[g]? := by
  simp only [World.setCell, Array.getElem?_modify, h]
theorem writes_local : ∀ (L : List Cel) (w w' : World) (k : Int) (g : Nat), w.heap[g]? = w'.heap[g]? → (writes w L k).heap[g]? = (writes w' L k).heap[g]?
  | [], w, w', k, g, h => h
  | c :: L, w, w', k, g, h => by
    rw [writes, writes]
    exact writes_local L _ _ _ g (set_heap _ _ _ _ _ h)
def WrB (w : World) (L : List Cel) (k : Int) (w' : World) : Prop := ∀ g, g < w.heap.size → w'.heap[g]? = (writes w L k).heap[g]?
theorem Wr.B (h : Wr w L k w') : WrB w L k w' := by
  obtain ⟨n, rfl⟩ := h
  exact fun g _ => rfl
theorem WrB.nil (hb : Below w.heap.size w w') : WrB w [] k w' := fun g hg => hb.block g hg
theorem WrB.trans (h : WrB w L k w1) (hs : w.heap.size ≤ w1.heap.size) (h2 : WrB w1 M k2 w2) (e : k2 = k + L.length) : WrB w (L ++ M) k w2 := fun g hg => by
  rw [h2 g (Nat.lt_of_lt_of_le hg hs), writes_append, e]
  exact writes_local M _ _ _ g (h g hg)
theorem WrB.held (h : WrB w L k w') (hc : ∀ c ∈ L, CellAt w c.1 c.2.1) (hn : (L.map addr2).Nodup) : HeldAt w' L k :=
  (held_writes L w k hc hn).of_heap (fun c hm => by
    obtain ⟨cs, t, h1, _⟩ := hc c hm
    exact h c.1 (blk_lt h1))
theorem Vis.cells : ∀ {t : Ty} {g o : Nat} {L : List Cel}, Vis P w t g o L → ∀ c ∈ L, CellAt w c.1 c.2.1 ∧ (c.1 = g ∨ P c.1)
  | .int, g, o, L, h, c, hm => by
    obtain ⟨rfl, h2⟩ := h
    obtain rfl := List.mem_singleton.1 hm
    exact ⟨h2.at_, .inl rfl⟩
  | .bool, g, o, L, h, c, hm => by
    obtain ⟨rfl, h2⟩ := h
    obtain rfl := List.mem_singleton.1 hm
    exact ⟨h2.at_, .inl rfl⟩
  | .pair a b, g, o, L, ⟨L1, L2, e, h1, h2⟩, c, hm => by
    subst e
    rcases List.mem_append.1 hm with hm | hm
    · exact Vis.cells h1 c hm
    · exact Vis.cells h2 c hm
  | .sl a, g, o, L, ⟨A, n, cp, hs, hb, Ls, e, h⟩, c, hm => by
    subst e
    obtain ⟨i, hi, hm⟩ := List.mem_flatMap.1 hm
    rw [List.mem_range] at hi
    obtain ⟨g', e', hp, hv⟩ := h (by omega)
    obtain ⟨h1, h2⟩ := Vis.cells (hv i hi) c hm
    exact ⟨h1, .inr (h2.elim (fun e => e ▸ hp) id)⟩
theorem RowV.cells (h : RowV P w t A n L) : ∀ c ∈ L, CellAt w c.1 c.2.1 ∧ P c.1 := fun c hm => by
  obtain ⟨hb, Ls, e, h⟩ := h
  subst e
  obtain ⟨i, hi, hm⟩ := List.mem_flatMap.1 hm
  rw [List.mem_range] at hi
  obtain ⟨g', e', hp, hv⟩ := h (by omega)
  obtain ⟨h1, h2⟩ := Vis.cells (hv i hi) c hm
  exact ⟨h1, h2.elim (fun e => e ▸ hp) id⟩
theorem Vis.mono (hp : ∀ k, P k → Q k) : ∀ {t : Ty} {g o : Nat} {L : List Cel}, Vis P w t g o L → Vis Q w t g o L
  | .int, _, _, _, h => h
  | .bool, _, _, _, h => h
  | .pair a b, _, _, _, ⟨L1, L2, e, h1, h2⟩ => ⟨L1, L2, e, Vis.mono hp h1, Vis.mono hp h2⟩
  | .sl a, _, _, _, ⟨A, n, c, hs, hb, Ls, e, h⟩ => ⟨A, n, c, hs, hb, Ls, e, fun hn => by
    obtain ⟨g', e', hp', hi⟩ := h hn
    exact ⟨g', e', hp _ hp', fun i hl => Vis.mono hp (hi i hl)⟩⟩
theorem RowV.mono (hp : ∀ k, P k → Q k) (h : RowV P w t A n L) : RowV Q w t A n L := by
  obtain ⟨hb, Ls, e, h⟩ := h
  exact ⟨hb, Ls, e, fun hn => by
    obtain ⟨g', e', hp', hi⟩ := h hn
    exact ⟨g', e', hp _ hp', fun i hl => Vis.mono hp (hi i hl)⟩⟩
end
structure Rep {α : Type} (d : Kd α) (T : Ty) (wt : α → Nat) : Prop where
  sz : d.sz = T.sz
  vis : ∀ {w : World} {base : Nat} {ok : Nat → Prop} {x : α} {cs : List Value}, d.M w base ok x cs → ∀ (g o : Nat) (cells : Array Value) (t : TypeId), w.heap[g]? = some (.cells cells t (0, 0)) → (∀ i u, cs[i]? = some u → cells[o + i]? = some u) → ∃ L, Vis ok w T g o L ∧ L.length = wt x
theorem Rep.int : Rep (Kd.int .i64) .int (fun _ => 1) := ⟨rfl, fun {w base ok x cs} hM g o cells t hb hc => by
  have e : cs = [.int .i64 x] := hM
  subst e
  exact ⟨_, ⟨rfl, cells, t, x, hb, by simpa using hc 0 _ rfl⟩, rfl⟩⟩
theorem Rep.bool : Rep Kd.bool .bool (fun _ => 1) := ⟨rfl, fun {w base ok x cs} hM g o cells t hb hc => by
  have e : cs = [.bool x] := hM
  subst e
  exact ⟨_, ⟨rfl, cells, t, x, hb, by simpa using hc 0 _ rfl⟩, rfl⟩⟩
theorem Rep.pair {α β : Type} {a : Kd α} {b : Kd β} {S T : Ty} {wa : α → Nat} {wb : β → Nat} (ha : Rep a S wa) (hb : Rep b T wb) : Rep (Kd.pair a b) (.pair S T) (fun x => wa x.1 + wb x.2) :=
  ⟨by show a.sz + b.sz = S.sz + T.sz; rw [ha.sz, hb.sz], fun {w base ok x cs} hM g o cells t hbk hc => by
    obtain ⟨c0, c1, rfl, h0, h1⟩ := hM
    have l0 : c0.length = S.sz := by rw [a.K_len (a.K_of_M h0), ha.sz]
    obtain ⟨L1, v1, e1⟩ := ha.vis h0 g o cells t hbk (fun i u hi => hc i u (by rw [List.getElem?_append_left (List.getElem?_eq_some_iff.1 hi).1]; exact hi))
    obtain ⟨L2, v2, e2⟩ := hb.vis h1 g (o + S.sz) cells t hbk (fun i u hi => by
      have := hc (S.sz + i) u (by rw [List.getElem?_append_right (by omega), l0, Nat.add_sub_cancel_left]; exact hi)
      rwa [← Nat.add_assoc] at this)
    exact ⟨L1 ++ L2, ⟨L1, L2, rfl, v1, v2⟩, by rw [List.length_append, e1, e2]⟩⟩
theorem Rep.iso {α β : Type} {d : Kd α} {T : Ty} {wt : α → Nat} (h : Rep d T wt) (f : β → α) : Rep (Kd.iso d f) T (fun x => wt (f x)) := ⟨h.sz, fun {w base ok x cs} hM => h.vis hM⟩
def wsum {α : Type} (wt : α → Nat) : List α → Nat
  | [] => 0
  | x :: r => wt x + wsum wt r
theorem cat_len {α : Type} (wt : α → Nat) : ∀ (xs : List α) (Ls : Nat → List Cel), (∀ i x, xs[i]? = some x → (Ls i).length = wt x) → (cat Ls xs.length).length = wsum wt xs := by
  intro xs Ls h
  have key : ∀ n, n ≤ xs.length → (cat Ls n).length = wsum wt (xs.take n) := by
    intro n
    induction n with
    | zero => intro _; simp [cat, wsum]
    | succ n ih =>
      intro hn
      have hw : ∀ (a b : List α), wsum wt (a ++ b) = wsum wt a + wsum wt b := by
        intro a b
        induction a with
        | nil => simp [wsum]
        | cons y r ih => rw [List.cons_append, wsum, wsum, ih]; omega
      rw [cat_succ, List.length_append, ih (by omega), List.take_succ_eq_append_getElem (show n < xs.length by omega), hw, h n xs[n] (List.getElem?_eq_getElem (by omega))]
      simp [wsum]
  rw [key xs.length (Nat.le_refl _), List.take_length]
theorem Rep.row {α : Type} {d : Kd α} {T : Ty} {wt : α → Nat} (h : Rep d T wt) {e : Nat} {w : World} {base : Nat} {ok : Nat → Prop} {v : Value} {xs : List α} (hR : d.R e w base ok v xs) :
    ∃ A c L, v = .slice A xs.length c ∧ RowV ok w T A xs.length L ∧ L.length = wsum wt xs := by
  obtain ⟨h0, inner, ho, hr⟩ := hR
  have ho2 := ho.2
  rcases ho2 with ⟨rfl, hn⟩ | ⟨g, cap, cur, rfl, hg, hh, hcap, hmax, hsz, htk⟩
  · obtain rfl := List.eq_nil_of_length_eq_zero hn
    exact ⟨none, 0, [], rfl, ⟨by simp, fun _ => [], rfl, fun h => absurd h (by simp)⟩, rfl⟩
  · have hmx : xs.length ≤ 9223372036854775807 := by have : cap ≤ 9223372036854775807 := hmax; omega
    have key : ∀ i x, xs[i]? = some x → ∃ L, Vis ok w T g (i * T.sz) L ∧ L.length = wt x := fun i x hi => by
      have hM := hr.2 i x hi
      have hil : i < xs.length := (List.getElem?_eq_some_iff.1 hi).1
      have hM2 := d.M_mono (ok' := ok) (fun k hk => hk.1) hM
      obtain ⟨L, v1, e1⟩ := h.vis hM2 g (i * T.sz) cur e hh (fun j u hj => by
        have hjl : j < d.sz := by
          have := (List.getElem?_eq_some_iff.1 hj).1
          rw [List.length_take] at this
          omega
        rw [List.getElem?_take, if_pos hjl, List.getElem?_drop, ← htk] at hj
        have hlt : i * d.sz + j < xs.length * d.sz := by
          have : (i + 1) * d.sz ≤ xs.length * d.sz := Nat.mul_le_mul_right _ hil
          rw [Nat.add_mul, Nat.one_mul] at this
          omega
        rw [List.getElem?_take, if_pos hlt, Array.getElem?_toList] at hj
        rw [← h.sz]
        exact hj)
      exact ⟨L, v1, e1⟩
    classical
    have : ∃ Ls : Nat → List Cel, ∀ i x, xs[i]? = some x → Vis ok w T g (i * T.sz) (Ls i) ∧ (Ls i).length = wt x := by
      refine ⟨fun i => if h : ∃ x, xs[i]? = some x then (key i h.choose h.choose_spec).choose else [], fun i x hi => ?_⟩
      have hex : ∃ x, xs[i]? = some x := ⟨x, hi⟩
      have ex : hex.choose = x := Option.some.inj (hex.choose_spec.symm.trans hi)
      simp only [dif_pos hex]
      have hs := (key i hex.choose hex.choose_spec).choose_spec
      exact ⟨hs.1, by rw [hs.2, ex]⟩
    obtain ⟨Ls, hLs⟩ := this
    refine ⟨some ⟨g, 0, none⟩, cap, cat Ls xs.length, rfl, ⟨hmx, Ls, rfl, fun _ => ⟨g, rfl, h0 g rfl, fun i hi => (hLs i xs[i] (List.getElem?_eq_getElem hi)).1⟩⟩, cat_len wt xs Ls (fun i x hi => (hLs i x hi).2)⟩
theorem Rep.slice {α : Type} {d : Kd α} {T : Ty} {wt : α → Nat} (h : Rep d T wt) (e : Nat) : Rep (Kd.slice e d) (.sl T) (wsum wt) :=
  ⟨rfl, fun {w base ok x cs} hM g o cells t hb hc => by
    obtain ⟨v, rfl, hR⟩ := hM
    obtain ⟨A, c, L, rfl, ⟨hmx, Ls, e1, hrow⟩, hl⟩ := h.row hR
    exact ⟨L, ⟨A, x.length, c, ⟨cells, t, hb, by simpa using hc 0 _ rfl⟩, hmx, Ls, e1, hrow⟩, hl⟩⟩
end Go.Proofs.Ythbcnakmnbilhaa.Marks
namespace Go.Proofs.Ythbcnakmnbilhaa.PFnExactLoad
open Go.RowKit Go.Proofs.YthbcnakmnbilhaaW.PrintWords Go.Proofs.YthbcnakmnbilhaaW.PrintLast Go.Proofs.YthbcnakmnbilhaaW.PrintMore Go.Proofs.Ythbcnakmnbilhaa.Marks
set_option linter.unusedVariables false
set_option linter.unusedSimpArgs false
def wt43 (x : S43) : Nat := (fun q : _ => 1 + (wsum (fun _ => 1) (q.2))) ((x.f0, x.f1))
def laws_FnExactLoad.f (k : Nat) (l0_0 : List (List (S139))) (l1 : List Int) (a2 : Int) (a3 : Int) (a4 : Bool) : Option Bool := if (l1.length : Int) > 1048576 then some true else (laws_szMemory.f k l0_0 1048576).bind fun t1 => if t1 < 0 then some true else (laws_toMemory.f k l0_0).bind fun t2 => (laws_toIntS.f k l1).bind fun t3 => (spec_Load.f k t2 t3 a2 a3 a4).bind fun bA5 => (laws_toMemory.f k l0_0).bind fun t6 => (laws_toIntS.f k l1).bind fun t7 => (impl_Load.f k t6 t7 a2 a3 a4).bind fun bA10 => if bA10.1 = bA5.1 then (laws_eqIntS.f k bA10.2 bA5.2).bind fun eA11 => if eA11 = true then (laws_toMemory.f k l0_0).bind fun t10 => (laws_eqMemory.f k t6 t10).bind fun eA14 => if eA14 = true then (laws_toIntS.f k l1).bind fun t11 => (laws_eqIntS.f k t7 t11).bind fun eA16 => if eA16 = true then if wsum (wsum wt43) t6 ≤ 1152921504606846976 then if wsum (fun _ => 1) t7 ≤ 1152921504606846976 then (laws_eqIntS.f k bA10.2 bA5.2).bind fun eA19 => if eA19 = true then if wsum (fun _ => 1) bA10.2 ≤ 1152921504606846976 then (laws_toMemory.f k l0_0).bind fun t12 => (laws_toIntS.f k l1).bind fun t13 => (impl_Load.f k t12 t13 a2 a3 a4).bind fun bA24 => if bA24.1 = bA5.1 then (laws_eqIntS.f k bA24.2 bA5.2).bind fun eA25 => if eA25 = true then some true else some false else some false else none else some false else none else none else some false else some false else some false else some false
end Go.Proofs.Ythbcnakmnbilhaa.PFnExactLoad
namespace Go.Proofs.Ythbcnakmnbilhaa.Marks
open Go.RowKit Go.Proofs.YthbcnakmnbilhaaW.PrintWords Go.Proofs.YthbcnakmnbilhaaW.PrintLast Go.Proofs.YthbcnakmnbilhaaW.PrintMore
set_option linter.unusedVariables false
set_option linter.unusedSimpArgs false
set_option maxHeartbeats 8000000 in
set_option maxRecDepth 100000 in
theorem wr_markMemory (P : Nat → Prop) (w : World) (A0 : Option Addr) (n0 c0 : Nat) (k : Int) (L0 : List Cel) (hr0 : RowV P w (.sl (.pair .int (.sl .int))) A0 n0 L0) (hP : ∀ j, P j → j < w.heap.size) (h0 : 0 ≤ k) (hk : k + (L0.length : Int) ≤ 4611686018427387904) :
    Calls Try.prog 16 #[.agg #[.slice A0 n0 c0], .int .i64 k] w fun e w' => e = .returned (.int .i64 (k + (L0.length : Int))) ∧ Mk P w w' ∧ WrB w (L0) k w' := by
  have HHP := Aside0.mk hP
  have HH0 := Aside0.mk (And.intro h0 hk)
  have HV0 := Aside0.mk hr0
  clear hP h0 hk hr0
  have hu24 := Try.underlying24
  go_enter Try.func16, Try.ntmps16
  go_wp2_with (first | ((with_reducible refine gate_dst (N := 2) rfl ?_); refine box_event ?hg (N := 2) ?hd (cs := #[.slice A0 n0 c0]) (t := 24) ?hr ?_; (case hd => rfl); (case hg => rfl); (case hr => first | (go_simp; done) | (go_simp; rfl)); intro gb hg w1 hbox hb; have BK0 := Aside0.mk hbox; have HB0 := Aside0.mk hb; have HG := Aside0.mk (show w.heap.size ≤ gb by rw [hg]; exact Nat.le_refl _); clear hg hbox hb; have HM0 := Aside0.mk (Mk.of_below (P := P) HB0.out); have HW0 := Aside0.mk (WrB.nil (k := k) HB0.out); have hcz0_0 : w1.cell? ⟨gb, 0, none⟩ = some (.slice A0 n0 c0) := (blk_cell BK0.out 0).trans rfl; have hfz0_0 := blk_frozen BK0.out 0) | ((with_reducible refine gate_callee (f := 53) rfl ?_); refine goesL_ (some 8) rfl rfl Try.func53 (by kernel_rfl) rfl #[.slice A0 n0 c0, .int .i64 (k)] rfl (by (try simp only [List.map_toArray, List.map_cons, List.map_nil]); first | done | rfl | (simp; done)) ?_; refine (wr_markWriteSS P _ A0 n0 c0 (k) L0 (HV0.out.mk HM0.out) (by have h1_ := HH0.out; omega) (by have h1_ := HH0.out; omega)).mono ?_; rintro e w2 ⟨rfl, hm, hw⟩; refine ⟨_, rfl, ?_⟩; have HM1 := Aside0.mk (HM0.out.trans hm); have BK1 := Aside0.mk (blk_kept BK0.out hm.1 (fun hp => by have h1_ := HHP.out _ hp; have h2_ := HG.out; omega)); have HW1 := Aside0.mk (WrB.trans HW0.out HM0.out.2.1.size hw.B (by (try simp only [List.length_append, List.length_nil]); push_cast; omega)); clear hm hw; have hcz1_0 : w2.cell? ⟨gb, 0, none⟩ = some (.slice A0 n0 c0) := (blk_cell BK1.out 0).trans rfl; have hfz1_0 := blk_frozen BK1.out 0))
  go_ret
  exact ⟨rfl, HM1.out, by have h_ := HW1.out; simpa using h_⟩
end Go.Proofs.Ythbcnakmnbilhaa.Marks
namespace Go.Proofs.Ythbcnakmnbilhaa.LawKit
open Go.RowKit Go.Proofs.YthbcnakmnbilhaaW.PrintWords Go.Proofs.YthbcnakmnbilhaaW.PrintLast Go.Proofs.YthbcnakmnbilhaaW.PrintMore Go.Proofs.Ythbcnakmnbilhaa.Marks
set_option linter.unusedVariables false
set_option linter.unusedSimpArgs false
def St (lo hi : Nat) (Q : World → Prop) (W : World) : Prop := hi ≤ W.heap.size ∧ ∀ W' : World, (∀ g, lo ≤ g → g < hi → W'.heap[g]? = W.heap[g]?) → Q W'
section
variable {lo hi g o : Nat} {Q : World → Prop} {W W' : World} {P : Nat → Prop}
theorem St.now (h : St lo hi Q W) : Q W := h.2 W (fun _ _ _ => rfl)
theorem St.keep (h : St lo hi Q W) (hs : W.heap.size ≤ W'.heap.size) (hk : ∀ g, lo ≤ g → g < hi → W'.heap[g]? = W.heap[g]?) : St lo hi Q W' :=
  ⟨Nat.le_trans h.1 hs, fun W2 h2 => h.2 W2 (fun g h3 h4 => (h2 g h3 h4).trans (hk g h3 h4))⟩
theorem St.below (h : St lo hi Q W) (hb : Below W.heap.size W W') : St lo hi Q W' := h.keep hb.size (fun g _ h4 => hb.block g (Nat.lt_of_lt_of_le h4 h.1))
theorem St.drew (h : St lo hi Q W) : St lo hi Q W.drew := h.keep (Nat.le_refl _) (fun _ _ _ => rfl)
theorem St.drewN (h : St lo hi Q W) (n : Nat) : St lo hi Q (W.drewN n) := h.keep (Nat.le_refl _) (fun _ _ _ => rfl)
theorem St.set (h : St lo hi Q W) (hg : hi ≤ g) (v : Value) : St lo hi Q (W.setCell ⟨g, o, none⟩ v) :=
  h.keep (by simp [World.setCell]) (fun k _ h4 => Below.heap_setCell W ⟨g, o, none⟩ v k (by show k ≠ g; omega))
theorem St.mark (h : St lo hi Q W) (hm : Mk P W W') (hP : ∀ k, P k → k < lo ∨ hi ≤ k) : St lo hi Q W' :=
  h.keep hm.2.1.size (fun k h3 h4 => hm.1.2 k (Nat.lt_of_lt_of_le h4 h.1) (fun hp => by have := hP k hp; omega))
theorem St.new (top : Nat) (ht : top ≤ W.heap.size) (hs : W.heap.size ≤ W'.heap.size) : ∃ lo hi, top ≤ lo ∧ lo ≤ hi ∧ hi ≤ W'.heap.size ∧ ∀ (α : Type) (d : Kd α) (e : Nat) (v : Value) (xs : List α) (ok : Nat → Prop), Kd.R d e W' W.heap.size ok v xs → St lo hi (fun w => Kd.R d e w lo (fun k => lo ≤ k ∧ k < hi) v xs) W' :=
  ⟨W.heap.size, W'.heap.size, ht, hs, Nat.le_refl _, fun α d e v xs ok h => ⟨Nat.le_refl _, fun W2 h2 => Kd.R_step (Kd.R_mono (Kd.R_bound h) (fun k hk => ⟨hk.2.1, hk.2.2.1⟩)) (fun k hk _ => h2 k hk.1 hk.2)⟩⟩
end
section
variable {α : Type} {d : Kd α} {e lo hi : Nat} {W : World} {A : Option Addr} {n c : Nat} {xs : List α}
theorem St.reads (h : St lo hi (fun w => Kd.R d e w lo (fun k => lo ≤ k ∧ k < hi) (.slice A xs.length c) xs) W) : d.C W A xs.length xs := (Kd.R_reads' h.now).2.2
theorem St.room (h : St lo hi (fun w => Kd.R d e w lo (fun k => lo ≤ k ∧ k < hi) (.slice A xs.length c) xs) W) : xs.length ≤ c := (Kd.R_reads' h.now).2.1
theorem St.rowv {T : Ty} {wt : α → Nat} (hT : Rep d T wt) (h : St lo hi (fun w => Kd.R d e w lo (fun k => lo ≤ k ∧ k < hi) (.slice A xs.length c) xs) W) : ∃ L, RowV (fun k => lo ≤ k ∧ k < hi) W T A xs.length L ∧ L.length = wsum wt xs := by
  obtain ⟨A', c', L, e1, h1, h2⟩ := hT.row h.now
  injection e1 with e2 e3 e4
  subst e2 e4
  exact ⟨L, h1, h2⟩
end
section
variable {P : Nat → Prop} {w w' : World}
theorem IntAt_move {g o : Nat} (h : IntAt w g o) (hm : w'.heap[g]? = w.heap[g]?) : IntAt w' g o := by
  obtain ⟨cs, t, n, h1, h2⟩ := h
  exact ⟨cs, t, n, hm.trans h1, h2⟩
theorem BoolAt_move {g o : Nat} (h : BoolAt w g o) (hm : w'.heap[g]? = w.heap[g]?) : BoolAt w' g o := by
  obtain ⟨cs, t, n, h1, h2⟩ := h
  exact ⟨cs, t, n, hm.trans h1, h2⟩
theorem SlAt_move {g o n c : Nat} {A : Option Addr} (h : SlAt w g o A n c) (hm : w'.heap[g]? = w.heap[g]?) : SlAt w' g o A n c := by
  obtain ⟨cs, t, h1, h2⟩ := h
  exact ⟨cs, t, hm.trans h1, h2⟩
theorem Vis.move (hm : ∀ g, P g → w'.heap[g]? = w.heap[g]?) : ∀ {t : Ty} {g o : Nat} {L : List Cel}, P g → Vis P w t g o L → Vis P w' t g o L
  | .int, g, o, L, hg, h => ⟨h.1, IntAt_move h.2 (hm g hg)⟩
  | .bool, g, o, L, hg, h => ⟨h.1, BoolAt_move h.2 (hm g hg)⟩
  | .pair a b, g, o, L, hg, ⟨L1, L2, e, h1, h2⟩ => ⟨L1, L2, e, Vis.move hm hg h1, Vis.move hm hg h2⟩
  | .sl a, g, o, L, hg, ⟨A, n, c, hs, hb, Ls, e, h⟩ => ⟨A, n, c, SlAt_move hs (hm g hg), hb, Ls, e, fun hn => by
    obtain ⟨g', e', hp, hi⟩ := h hn
    exact ⟨g', e', hp, fun i hl => Vis.move hm hp (hi i hl)⟩⟩
theorem RowV.move (hm : ∀ g, P g → w'.heap[g]? = w.heap[g]?) {t : Ty} {A : Option Addr} {n : Nat} {L : List Cel} (h : RowV P w t A n L) : RowV P w' t A n L := by
  obtain ⟨hb, Ls, e, h⟩ := h
  exact ⟨hb, Ls, e, fun hn => by
    obtain ⟨g', e', hp, hi⟩ := h hn
    exact ⟨g', e', hp, fun i hl => Vis.move hm hp (hi i hl)⟩⟩
end
theorem St.of_row {lo hi : Nat} {W : World} {t : Ty} {A : Option Addr} {n : Nat} {L : List Cel} (hs : hi ≤ W.heap.size) (h : RowV (fun k => lo ≤ k ∧ k < hi) W t A n L) : St lo hi (fun w => RowV (fun k => lo ≤ k ∧ k < hi) w t A n L) W :=
  ⟨hs, fun W2 h2 => RowV.move (fun g hg => h2 g hg.1 hg.2) h⟩
theorem St.of_held {lo hi : Nat} {W : World} {L : List Cel} {k : Int} (hs : hi ≤ W.heap.size) (hL : ∀ c ∈ L, lo ≤ c.1 ∧ c.1 < hi) (h : HeldAt W L k) : St lo hi (fun w => HeldAt w L k) W :=
  ⟨hs, fun W2 h2 => h.of_heap (fun c hc => h2 c.1 (hL c hc).1 (hL c hc).2)⟩
theorem RowV.ints {P : Nat → Prop} {w : World} {A : Option Addr} {n : Nat} {L : List Cel} (h : RowV P w .int A n L) : (L.map addr2).Nodup := by
  obtain ⟨_, Ls, rfl, h⟩ := h
  have key : ∀ m, m ≤ n → ((cat Ls m).map addr2).Nodup ∧ ∀ a ∈ (cat Ls m).map addr2, a.2 < m := by
    intro m
    induction m with
    | zero => intro _; exact ⟨by simp [cat], by simp [cat]⟩
    | succ m ih =>
      intro hm
      obtain ⟨i1, i2⟩ := ih (by omega)
      obtain ⟨g, _, _, hi⟩ := h (by omega)
      have e := (hi m (by omega)).1
      rw [cat_succ, e, List.map_append]
      refine ⟨List.nodup_append.2 ⟨i1, by simp, fun a ha b hb e2 => ?_⟩, fun a ha => ?_⟩
      · have h1 := i2 a ha
        have hb2 : b = addr2 (g, m * Ty.int.sz, false) := by simpa using hb
        subst e2
        rw [hb2] at h1
        simp [addr2, Ty.sz] at h1
      · rcases List.mem_append.1 ha with ha | ha
        · have := i2 a ha
          omega
        · have hb2 : a = addr2 (g, m * Ty.int.sz, false) := by simpa using ha
          rw [hb2]
          simp [addr2, Ty.sz]
  exact (key n (Nat.le_refl _)).1
end Go.Proofs.Ythbcnakmnbilhaa.LawKit
