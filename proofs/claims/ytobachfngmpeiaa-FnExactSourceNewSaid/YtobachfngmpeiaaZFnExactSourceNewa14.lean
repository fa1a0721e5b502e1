/- A part of the proof that the law FnExactSourceNew holds for every input: the words, functions and walks that its row needs, without a condition of their own. -/
import Derived.Test.YtobachfngmpeiaaProg
import Derived.Test.YtobachfngmpeiaaZFnExactSourceNewa0
import Derived.Test.YtobachfngmpeiaaZFnExactSourceNewa1
import Derived.Test.YtobachfngmpeiaaZFnExactSourceNewa2
import Derived.Test.YtobachfngmpeiaaZFnExactSourceNewa10
import Derived.Test.YtobachfngmpeiaaZFnExactSourceNewa13
import Derived.Test.YtobachfngmpeiaaZFnExactSourceNews
namespace Go.Proofs.Ytobachfngmpeiaa.PFnExactSourceNew
open Go.RowKit Go.Proofs.YtobachfngmpeiaaW.PrintWords Go.Proofs.YtobachfngmpeiaaW.PrintLast Go.Proofs.YtobachfngmpeiaaW.PrintMore
attribute [local go_sem] max2_int min2_int max_two min_two max_three min_three max_four min_four   -- for this text's walks alone
set_option linter.unusedVariables false
set_option linter.unusedSimpArgs false
def laws_eqInsSS.l0 : Nat → List (List (S192)) → List (List (S192)) → Int → Option (Bool)
  | 0, _, _, _ => none
  | k + 1, x0, x1, x5 => if x5 < (x0.length : Int) then (if 0 ≤ x5 then (if x5 < (x1.length : Int) then ((laws_eqInsS.f k (rd_L4 x0 x5) (rd_L4 x1 x5)).bind fun t252 => (if t252 = true then (laws_eqInsSS.l0 k x0 x1 (wrap64 (x5 + 1))) else (some false))) else (none)) else (none)) else (some true)
def laws_eqInsSS.f (k : Nat) (l0 : List (List (S192))) (l1 : List (List (S192))) : Option (Bool) := if (l0.length : Int) = (l1.length : Int) then (laws_eqInsSS.l0 k l0 l1 0) else (some false)
def laws_eqInsSS.T6 : Bool × List (List Nat × List Nat) := (true, [([], []), ([], []), ([0, 1], [0, 1]), ([2], [2]), ([], []), ([], []), ([4, 5], [4, 5]), ([6], [6]), ([3, 7], [3, 7]), ([8], [8])])
def laws_eqInsSS.B6 : List Nat := [0, 0, 3, 7, 0, 0, 48, 112, 255, 511]
theorem laws_eqInsSS.tab6 : rtab .any (opsOf Try.f67 6) = laws_eqInsSS.T6 := by kernel_rfl
theorem laws_eqInsSS.bits6 : waitsOk laws_eqInsSS.T6.2 laws_eqInsSS.B6 = true := by kernel_rfl
set_option maxHeartbeats 8000000 in
set_option maxRecDepth 100000 in
theorem laws_eqInsSS.calls (k : Nat) (A0 : Option Addr) (c0 : Nat) (l0 : List (List (S192))) (A1 : Option Addr) (c1 : Nat) (l1 : List (List (S192))) (r : Bool) (w : World) (hr0 : Kd.C (Kd.slice 192 k192) w A0 l0.length l0) (hc0 : l0.length ≤ c0) (hr1 : Kd.C (Kd.slice 192 k192) w A1 l1.length l1) (hc1 : l1.length ≤ c1) (h : laws_eqInsSS.f k l0 l1 = some r) :
  Calls Try.prog 67 #[.slice A0 l0.length c0, .slice A1 l1.length c1] w fun e w' => e = .returned (.bool r) ∧ Below w.heap.size w w' := by
 have HR0 := aM_ hr0
 have HC0 := aM_ hc0
 clear hr0 hc0
 have HR1 := aM_ hr1
 have HC1 := aM_ hc1
 clear hr1 hc1
 have HB := aM_ (Below.refl w.heap.size w)
 have H : (if (l0.length : Int) = (l1.length : Int) then (laws_eqInsSS.l0 k l0 l1 0) else (some false)) = some r := h
 clear h
 by_cases c3 : (l0.length : Int) = (l1.length : Int)
 ·rw [if_pos c3] at H
  have c3b0 : ((l0.length : Int) == (l1.length : Int)) = true := beq_iff_eq.mpr c3
  have c3b1 : ((l0.length : Int) != (l1.length : Int)) = false := bne_eq_false_iff_eq.mpr c3
  have c3b2 : (l0.length == l1.length) = true := by first | simpa using c3 | (simp at c3 ⊢; omega)
  clear c3
  have H' := aM_ H
  clear H
  go_enter Try.func67, Try.ntmps67
  go_wp2
  go_loopg [5] k (fun kq v5 w' => ∃ (x5_1 : Int), v5 = .int .i64 x5_1 ∧ Aside0 (laws_eqInsSS.l0 kq l0 l1 x5_1 = some r) ∧ Aside0 (kq ≤ k) ∧ Aside0 (Below w.heap.size w w'))
  case atStart => exact ⟨(0), (by first | rfl | (simp; done) | (simp [*]; done)), H', ⟨Nat.le_refl _⟩, ⟨gW_ HB.out⟩⟩
  case round =>
   clear H'
   try clear c1
   try clear p2
   try clear c3
   try clear c3b0
   try clear c3b1
   try clear c3b2
   obtain ⟨x5_1, rfl, HA, HK1, HB⟩ := hrel
   cases gk with
   | zero => exact absurd HA.out (by simp [laws_eqInsSS.l0])
   | succ k1 =>
    have H := HA.out
    clear HA
    simp only [laws_eqInsSS.l0] at H
    by_cases c4 : x5_1 < (l0.length : Int)
    ·rw [if_pos c4] at H
     have c4b0 : decide (x5_1 < (l0.length : Int)) = true := decide_eq_true c4
     clear c4
     by_cases c5 : 0 ≤ x5_1
     ·rw [if_pos c5] at H
      have c5b0 : decide (0 ≤ x5_1) = true := decide_eq_true c5
      clear c5
      by_cases c6 : x5_1 < (l1.length : Int)
      ·rw [if_pos c6] at H
       have c6b0 : decide (x5_1 < (l1.length : Int)) = true := decide_eq_true c6
       clear c6
       replace H := Option.bind_eq_some_iff.mp H
       obtain ⟨t252, A70, H⟩ := H
       replace H : (if t252 = true then (laws_eqInsSS.l0 k1 l0 l1 (wrap64 (x5_1 + 1))) else (some false)) = some r := H
       have A7 := aM_ A70
       clear A70
       by_cases c8 : t252 = true
       ·subst c8
        have H1 : (laws_eqInsSS.l0 k1 l0 l1 (wrap64 (x5_1 + 1))) = some r := by rw [if_pos rfl] at H; exact H
        clear H
        have H := H1
        clear H1
        have H' := aM_ H
        clear H
        try go_wp2
        have n0 := aM_ (below_drew1 HB.out)
        clear HB
        have HB := n0
        clear n0
        have p250 : 0 ≤ (x5_1 : Int) := of_decide_eq_true (by first | (with_reducible assumption) | assumption)
        have q250 : x5_1 < (l0.length : Int) := of_decide_eq_true (by first | (with_reducible assumption) | assumption)
        obtain ⟨ad250, A250_0, c250_0, e250, hx250_0, hl250_0, hi250_0⟩ := at_L4 HR0.out x5_1 p250 q250
        have hw250_0 := hx250_0
        cases e250
        replace hx250_0 := cB_ HB.out hx250_0
        have HR250_0 := aM_ hi250_0
        have HC250_0 := aM_ hl250_0
        clear hi250_0 hl250_0
        replace p250 := eq_true p250
        replace q250 := eq_true q250
        have p251 : 0 ≤ (x5_1 : Int) := of_decide_eq_true (by first | (with_reducible assumption) | assumption)
        have q251 : x5_1 < (l1.length : Int) := of_decide_eq_true (by first | (with_reducible assumption) | assumption)
        obtain ⟨ad251, A251_0, c251_0, e251, hx251_0, hl251_0, hi251_0⟩ := at_L4 HR1.out x5_1 p251 q251
        have hw251_0 := hx251_0
        cases e251
        replace hx251_0 := cB_ HB.out hx251_0
        have HR251_0 := aM_ hi251_0
        have HC251_0 := aM_ hl251_0
        clear hi251_0 hl251_0
        replace p251 := eq_true p251
        replace q251 := eq_true q251
        refine start_ (n := 10) (S := fun w' => w'.cell? (ad250.add (x5_1).toNat) = some (.slice A250_0 (rd_L4 l0 x5_1).length c250_0) ∧ w'.cell? (ad251.add (x5_1).toNat) = some (.slice A251_0 (rd_L4 l1 x5_1).length c251_0)) (ds := []) (mk_ 10 0) (by kernel_rfl) rfl rfl ⟨(cB_ HB.out hw250_0 :), (cB_ HB.out hw251_0 :)⟩ (fun hHeld => ?_); refine with_tabW laws_eqInsSS.tab6 laws_eqInsSS.bits6 (fun HT_ HW_ => ?_)
        generalize wr.drew = w9 at HB HR250_0 HR251_0 hx250_0 hx251_0 hHeld ⊢
        refine pU_ 0 (some 17) (mk_ 10 1) ?_
        refine pU_ 1 (some 18) (mk_ 10 3) ?_
        refine pU_ 2 (some 19) (mk_ 10 7) ?_
        refine pU_ 4 (some 21) (mk_ 10 23) ?_
        refine pU_ 5 (some 22) (mk_ 10 55) ?_
        refine pU_ 6 (some 23) (mk_ 10 119) ?_
        refine tK2_ 3 (some 20) (mk_ 10 127) ?_
        refine tK2_ 7 (some 24) (mk_ 10 255) ?_
        refine oN_ 8 (some 25) (mk_ 10 511) (fun K hK => ?_)
        refine gO_ Try.func130 #[.slice A250_0 (rd_L4 l0 x5_1).length c250_0, .slice A251_0 (rd_L4 l1 x5_1).length c251_0] ?_
        with_reducible refine (laws_eqInsS.calls k1 _ _ (rd_L4 l0 x5_1) _ _ (rd_L4 l1 x5_1) true _ ?side1 ?side2 ?side3 ?side4 A7.out).mono ?_
        (case side1 => exact cS_ (Kd.C_below HR250_0.out HB.out))
        (case side2 => exact HC250_0.out)
        (case side3 => exact cS_ (Kd.C_below HR251_0.out HB.out))
        (case side4 => exact HC251_0.out)
        rintro e w10 ⟨rfl, hb⟩
        refine ⟨_, rfl, ?_⟩
        have n0 := aM_ (sT_ HB.out hb)
        clear HB
        have HB := n0
        clear n0
        (try clear hb)
        (try clear hb2)
        (try clear hk)
        (try clear hi)
        refine hK.out _ _ ⟨(cB_ HB.out hw250_0 :), (cB_ HB.out hw251_0 :)⟩ (fun hHeld => ?_)
        clear hK K
        refine norm_ (a' := ?_) ?_ ?_
        rotate_left
        ·show Act.put _ (some 25) _ = _
         simp only [pt_, pn_, sI_, s0_, s1_, i64_w, i32_w]
         rfl
        refine pU_ 9 (some 26) (mk_ 10 1023) ?_
        refine done_ (done_of HT_.out (by kernel_rfl)) ?_
        try go_wp2
        go_roundg k1
        case measure => have := HK1.out; omega
        case rel => exact ⟨(wrap64 (x5_1 + 1)), (by first | rfl | (simp; done) | (simp [*]; done)), H', ⟨by have := HK1.out; omega⟩, ⟨gW_ HB.out⟩⟩
       ·replace c8 := Bool.eq_false_iff.mpr c8
        subst c8
        have H1 : (some false) = some r := by rw [if_neg (show ¬ (false = true) by decide)] at H; exact H
        clear H
        have H := H1
        clear H1
        obtain rfl := Option.some.inj H
        try go_wp2
        have n0 := aM_ (below_drew1 HB.out)
        clear HB
        have HB := n0
        clear n0
        have p250 : 0 ≤ (x5_1 : Int) := of_decide_eq_true (by first | (with_reducible assumption) | assumption)
        have q250 : x5_1 < (l0.length : Int) := of_decide_eq_true (by first | (with_reducible assumption) | assumption)
        obtain ⟨ad250, A250_0, c250_0, e250, hx250_0, hl250_0, hi250_0⟩ := at_L4 HR0.out x5_1 p250 q250
        have hw250_0 := hx250_0
        cases e250
        replace hx250_0 := cB_ HB.out hx250_0
        have HR250_0 := aM_ hi250_0
        have HC250_0 := aM_ hl250_0
        clear hi250_0 hl250_0
        replace p250 := eq_true p250
        replace q250 := eq_true q250
        have p251 : 0 ≤ (x5_1 : Int) := of_decide_eq_true (by first | (with_reducible assumption) | assumption)
        have q251 : x5_1 < (l1.length : Int) := of_decide_eq_true (by first | (with_reducible assumption) | assumption)
        obtain ⟨ad251, A251_0, c251_0, e251, hx251_0, hl251_0, hi251_0⟩ := at_L4 HR1.out x5_1 p251 q251
        have hw251_0 := hx251_0
        cases e251
        replace hx251_0 := cB_ HB.out hx251_0
        have HR251_0 := aM_ hi251_0
        have HC251_0 := aM_ hl251_0
        clear hi251_0 hl251_0
        replace p251 := eq_true p251
        replace q251 := eq_true q251
        refine start_ (n := 10) (S := fun w' => w'.cell? (ad250.add (x5_1).toNat) = some (.slice A250_0 (rd_L4 l0 x5_1).length c250_0) ∧ w'.cell? (ad251.add (x5_1).toNat) = some (.slice A251_0 (rd_L4 l1 x5_1).length c251_0)) (ds := []) (mk_ 10 0) (by kernel_rfl) rfl rfl ⟨(cB_ HB.out hw250_0 :), (cB_ HB.out hw251_0 :)⟩ (fun hHeld => ?_); refine with_tabW laws_eqInsSS.tab6 laws_eqInsSS.bits6 (fun HT_ HW_ => ?_)
        generalize wr.drew = w11 at HB HR250_0 HR251_0 hx250_0 hx251_0 hHeld ⊢
        refine pU_ 0 (some 17) (mk_ 10 1) ?_
        refine pU_ 1 (some 18) (mk_ 10 3) ?_
        refine pU_ 2 (some 19) (mk_ 10 7) ?_
        refine pU_ 4 (some 21) (mk_ 10 23) ?_
        refine pU_ 5 (some 22) (mk_ 10 55) ?_
        refine pU_ 6 (some 23) (mk_ 10 119) ?_
        refine tK2_ 3 (some 20) (mk_ 10 127) ?_
        refine tK2_ 7 (some 24) (mk_ 10 255) ?_
        refine oN_ 8 (some 25) (mk_ 10 511) (fun K hK => ?_)
        refine gO_ Try.func130 #[.slice A250_0 (rd_L4 l0 x5_1).length c250_0, .slice A251_0 (rd_L4 l1 x5_1).length c251_0] ?_
        with_reducible refine (laws_eqInsS.calls k1 _ _ (rd_L4 l0 x5_1) _ _ (rd_L4 l1 x5_1) false _ ?side1 ?side2 ?side3 ?side4 A7.out).mono ?_
        (case side1 => exact cS_ (Kd.C_below HR250_0.out HB.out))
        (case side2 => exact HC250_0.out)
        (case side3 => exact cS_ (Kd.C_below HR251_0.out HB.out))
        (case side4 => exact HC251_0.out)
        rintro e w12 ⟨rfl, hb⟩
        refine ⟨_, rfl, ?_⟩
        have n0 := aM_ (sT_ HB.out hb)
        clear HB
        have HB := n0
        clear n0
        (try clear hb)
        (try clear hb2)
        (try clear hk)
        (try clear hi)
        refine hK.out _ _ ⟨(cB_ HB.out hw250_0 :), (cB_ HB.out hw251_0 :)⟩ (fun hHeld => ?_)
        clear hK K
        refine norm_ (a' := ?_) ?_ ?_
        rotate_left
        ·show Act.put _ (some 25) _ = _
         simp only [pt_, pn_, sI_, s0_, s1_, i64_w, i32_w]
         rfl
        refine pU_ 9 (some 26) (mk_ 10 1023) ?_
        refine done_ (done_of HT_.out (by kernel_rfl)) ?_
        try go_wp2
        go_ret
        exact fI_ HB.out
      ·rw [if_neg c6] at H
       exact absurd H (by simp)
     ·rw [if_neg c5] at H
      exact absurd H (by simp)
    ·rw [if_neg c4] at H
     have c4b0 : decide (x5_1 < (l0.length : Int)) = false := decide_eq_false c4
     clear c4
     obtain rfl := Option.some.inj H
     go_wp2
     go_ret
     exact fI_ HB.out
 ·rw [if_neg c3] at H
  have c3b0 : ((l0.length : Int) == (l1.length : Int)) = false := beq_eq_false_iff_ne.mpr c3
  have c3b1 : ((l0.length : Int) != (l1.length : Int)) = true := bne_iff_ne.mpr c3
  have c3b2 : (l0.length == l1.length) = false := by first | simpa using c3 | (simp at c3 ⊢; omega)
  obtain rfl := Option.some.inj H
  go_enter Try.func67, Try.ntmps67
  go_wp2
  go_ret
  exact fI_ HB.out
def laws_eqProg.f (k : Nat) (l0_0 : List Int) (l0_1 : List (List (S192))) (l1_0 : List Int) (l1_1 : List (List (S192))) : Option (Bool) := (laws_eqIntS.f k l0_0 l1_0).bind fun t255 => (if t255 = true then ((laws_eqInsSS.f k l0_1 l1_1).bind fun t256 => (if t256 = true then (some true) else (some false))) else (some false))
set_option maxHeartbeats 8000000 in
set_option maxRecDepth 100000 in
theorem laws_eqProg.calls (k : Nat) (A0_0 : Option Addr) (c0_0 : Nat) (l0_0 : List Int) (A0_1 : Option Addr) (c0_1 : Nat) (l0_1 : List (List (S192))) (A1_0 : Option Addr) (c1_0 : Nat) (l1_0 : List Int) (A1_1 : Option Addr) (c1_1 : Nat) (l1_1 : List (List (S192))) (r : Bool) (w : World) (hr0_0 : Kd.C (Kd.int .i64) w A0_0 l0_0.length l0_0) (hc0_0 : l0_0.length ≤ c0_0) (hr0_1 : Kd.C (Kd.slice 192 k192) w A0_1 l0_1.length l0_1) (hc0_1 : l0_1.length ≤ c0_1) (hr1_0 : Kd.C (Kd.int .i64) w A1_0 l1_0.length l1_0) (hc1_0 : l1_0.length ≤ c1_0) (hr1_1 : Kd.C (Kd.slice 192 k192) w A1_1 l1_1.length l1_1) (hc1_1 : l1_1.length ≤ c1_1) (h : laws_eqProg.f k l0_0 l0_1 l1_0 l1_1 = some r) :
  Calls Try.prog 20 #[.agg #[.slice A0_0 l0_0.length c0_0, .slice A0_1 l0_1.length c0_1], .agg #[.slice A1_0 l1_0.length c1_0, .slice A1_1 l1_1.length c1_1]] w fun e w' => e = .returned (.bool r) ∧ Below w.heap.size w w' := by
 have hu44 := Try.underlying44
 have HR0_0 := aM_ hr0_0
 have HC0_0 := aM_ hc0_0
 clear hr0_0 hc0_0
 have HR0_1 := aM_ hr0_1
 have HC0_1 := aM_ hc0_1
 clear hr0_1 hc0_1
 have HR1_0 := aM_ hr1_0
 have HC1_0 := aM_ hc1_0
 clear hr1_0 hc1_0
 have HR1_1 := aM_ hr1_1
 have HC1_1 := aM_ hc1_1
 clear hr1_1 hc1_1
 have HB := aM_ (Below.refl w.heap.size w)
 have H : ((laws_eqIntS.f k l0_0 l1_0).bind fun t255 => (if t255 = true then ((laws_eqInsSS.f k l0_1 l1_1).bind fun t256 => (if t256 = true then (some true) else (some false))) else (some false))) = some r := h
 clear h
 replace H := Option.bind_eq_some_iff.mp H
 obtain ⟨t255, A30, H⟩ := H
 replace H : (if t255 = true then ((laws_eqInsSS.f k l0_1 l1_1).bind fun t256 => (if t256 = true then (some true) else (some false))) else (some false)) = some r := H
 have A3 := aM_ A30
 clear A30
 by_cases c4 : t255 = true
 ·subst c4
  have H1 : ((laws_eqInsSS.f k l0_1 l1_1).bind fun t256 => (if t256 = true then (some true) else (some false))) = some r := by rw [if_pos rfl] at H; exact H
  clear H
  have H := H1
  clear H1
  replace H := Option.bind_eq_some_iff.mp H
  obtain ⟨t256, A50, H⟩ := H
  replace H : (if t256 = true then (some true) else (some false)) = some r := H
  have A5 := aM_ A50
  clear A50
  by_cases c6 : t256 = true
  ·subst c6
   have H1 : (some true) = some r := by rw [if_pos rfl] at H; exact H
   clear H
   have H := H1
   clear H1
   obtain rfl := Option.some.inj H
   go_enter Try.func20, Try.ntmps20
   go_wp2_with (first | ((with_reducible refine gate_dst (N := 2) rfl ?_); refine bX_ 2 (cs := #[.slice A0_0 l0_0.length c0_0, .slice A0_1 l0_1.length c0_1]) (t := 44) ?_; intro gb253 hg w7 hbox hb; have n0 := aM_ (sT_ HB.out hb); have n1 := aM_ (hbox); have n2 := aM_ (sZ_ hg HB.out); have n3 := aM_ (sZ_ hg HB.out); clear HB; have HB := n0; have BK253 := n1; have GW253 := n2; have GE253 := n3; clear n0 n1 n2 n3; clear hb hbox hg) | ((with_reducible refine gate_dst (N := 3) rfl ?_); refine bX_ 3 (cs := #[.slice A1_0 l1_0.length c1_0, .slice A1_1 l1_1.length c1_1]) (t := 44) ?_; intro gb254 hg w8 hbox hb; have n0 := aM_ (nB_ BK253.out hb); have n1 := aM_ (sT_ HB.out hb); have n2 := aM_ (hbox); have n3 := aM_ (sZ_ hg HB.out); have n4 := aM_ (sZ_ hg HB.out); have n5 := aM_ (nL_ hg BK253.out); have n6 := aM_ (nG_ hg BK253.out); clear BK253; clear HB; have BK253 := n0; have HB := n1; have BK254 := n2; have GW254 := n3; have GE254 := n4; have NB253_254 := n5; have NB254_253 := n6; clear n0 n1 n2 n3 n4 n5 n6; clear hb hbox hg; have hnb9 := NB253_254.out; have hnc9 := NB254_253.out; obtain ⟨hcz10_0, hcz10_1, hfz10_0, hfz10_1⟩ := bR2_ BK253.out; obtain ⟨hcz11_0, hcz11_1, hfz11_0, hfz11_1⟩ := bR2_ BK254.out) | ((with_reducible refine gate_callee (f := 39) rfl ?_); refine gL_ (some 9) Try.func39 #[.slice A0_0 l0_0.length c0_0, .slice A1_0 l1_0.length c1_0] ?_; (with_reducible refine (laws_eqIntS.calls k _ _ l0_0 _ _ l1_0 true _ ?side1 ?side2 ?side3 ?side4 A3.out).mono ?_); (case side1 => exact cS_ (Kd.C_below HR0_0.out HB.out)); (case side2 => exact HC0_0.out); (case side3 => exact cS_ (Kd.C_below HR1_0.out HB.out)); (case side4 => exact HC1_0.out); rintro e w' ⟨rfl, ⟨nd, rfl⟩⟩; refine ⟨_, rfl, ?_⟩) | ((with_reducible refine gate_callee (f := 67) rfl ?_); refine gL_ (some 15) Try.func67 #[.slice A0_1 l0_1.length c0_1, .slice A1_1 l1_1.length c1_1] ?_; (with_reducible refine (laws_eqInsSS.calls k _ _ l0_1 _ _ l1_1 true _ ?side1 ?side2 ?side3 ?side4 A5.out).mono ?_); (case side1 => exact cS_ (Kd.C_below HR0_1.out (gB_ HB.out))); (case side2 => exact HC0_1.out); (case side3 => exact cS_ (Kd.C_below HR1_1.out (gB_ HB.out))); (case side4 => exact HC1_1.out); rintro e w12 ⟨rfl, hb⟩; refine ⟨_, rfl, ?_⟩; have n0 := aM_ (nB_ BK253.out hb); have n1 := aM_ (nB_ BK254.out hb); have n2 := aM_ (sT_ HB.out hb); clear BK253; clear BK254; clear HB; have BK253 := n0; have BK254 := n1; have HB := n2; clear n0 n1 n2))
   go_ret
   exact fI_ HB.out
  ·replace c6 := Bool.eq_false_iff.mpr c6
   subst c6
   have H1 : (some false) = some r := by rw [if_neg (show ¬ (false = true) by decide)] at H; exact H
   clear H
   have H := H1
   clear H1
   obtain rfl := Option.some.inj H
   go_enter Try.func20, Try.ntmps20
   go_wp2_with (first | ((with_reducible refine gate_dst (N := 2) rfl ?_); refine bX_ 2 (cs := #[.slice A0_0 l0_0.length c0_0, .slice A0_1 l0_1.length c0_1]) (t := 44) ?_; intro gb253 hg w13 hbox hb; have n0 := aM_ (sT_ HB.out hb); have n1 := aM_ (hbox); have n2 := aM_ (sZ_ hg HB.out); have n3 := aM_ (sZ_ hg HB.out); clear HB; have HB := n0; have BK253 := n1; have GW253 := n2; have GE253 := n3; clear n0 n1 n2 n3; clear hb hbox hg) | ((with_reducible refine gate_dst (N := 3) rfl ?_); refine bX_ 3 (cs := #[.slice A1_0 l1_0.length c1_0, .slice A1_1 l1_1.length c1_1]) (t := 44) ?_; intro gb254 hg w14 hbox hb; have n0 := aM_ (nB_ BK253.out hb); have n1 := aM_ (sT_ HB.out hb); have n2 := aM_ (hbox); have n3 := aM_ (sZ_ hg HB.out); have n4 := aM_ (sZ_ hg HB.out); have n5 := aM_ (nL_ hg BK253.out); have n6 := aM_ (nG_ hg BK253.out); clear BK253; clear HB; have BK253 := n0; have HB := n1; have BK254 := n2; have GW254 := n3; have GE254 := n4; have NB253_254 := n5; have NB254_253 := n6; clear n0 n1 n2 n3 n4 n5 n6; clear hb hbox hg; have hnb15 := NB253_254.out; have hnc15 := NB254_253.out; obtain ⟨hcz16_0, hcz16_1, hfz16_0, hfz16_1⟩ := bR2_ BK253.out; obtain ⟨hcz17_0, hcz17_1, hfz17_0, hfz17_1⟩ := bR2_ BK254.out) | ((with_reducible refine gate_callee (f := 39) rfl ?_); refine gL_ (some 9) Try.func39 #[.slice A0_0 l0_0.length c0_0, .slice A1_0 l1_0.length c1_0] ?_; (with_reducible refine (laws_eqIntS.calls k _ _ l0_0 _ _ l1_0 true _ ?side1 ?side2 ?side3 ?side4 A3.out).mono ?_); (case side1 => exact cS_ (Kd.C_below HR0_0.out HB.out)); (case side2 => exact HC0_0.out); (case side3 => exact cS_ (Kd.C_below HR1_0.out HB.out)); (case side4 => exact HC1_0.out); rintro e w' ⟨rfl, ⟨nd, rfl⟩⟩; refine ⟨_, rfl, ?_⟩) | ((with_reducible refine gate_callee (f := 67) rfl ?_); refine gL_ (some 15) Try.func67 #[.slice A0_1 l0_1.length c0_1, .slice A1_1 l1_1.length c1_1] ?_; (with_reducible refine (laws_eqInsSS.calls k _ _ l0_1 _ _ l1_1 false _ ?side1 ?side2 ?side3 ?side4 A5.out).mono ?_); (case side1 => exact cS_ (Kd.C_below HR0_1.out (gB_ HB.out))); (case side2 => exact HC0_1.out); (case side3 => exact cS_ (Kd.C_below HR1_1.out (gB_ HB.out))); (case side4 => exact HC1_1.out); rintro e w18 ⟨rfl, hb⟩; refine ⟨_, rfl, ?_⟩; have n0 := aM_ (nB_ BK253.out hb); have n1 := aM_ (nB_ BK254.out hb); have n2 := aM_ (sT_ HB.out hb); clear BK253; clear BK254; clear HB; have BK253 := n0; have BK254 := n1; have HB := n2; clear n0 n1 n2))
   go_ret
   exact fI_ HB.out
 ·replace c4 := Bool.eq_false_iff.mpr c4
  subst c4
  have H1 : (some false) = some r := by rw [if_neg (show ¬ (false = true) by decide)] at H; exact H
  clear H
  have H := H1
  clear H1
  obtain rfl := Option.some.inj H
  go_enter Try.func20, Try.ntmps20
  go_wp2_with (first | ((with_reducible refine gate_dst (N := 2) rfl ?_); refine bX_ 2 (cs := #[.slice A0_0 l0_0.length c0_0, .slice A0_1 l0_1.length c0_1]) (t := 44) ?_; intro gb253 hg w19 hbox hb; have n0 := aM_ (sT_ HB.out hb); have n1 := aM_ (hbox); have n2 := aM_ (sZ_ hg HB.out); have n3 := aM_ (sZ_ hg HB.out); clear HB; have HB := n0; have BK253 := n1; have GW253 := n2; have GE253 := n3; clear n0 n1 n2 n3; clear hb hbox hg) | ((with_reducible refine gate_dst (N := 3) rfl ?_); refine bX_ 3 (cs := #[.slice A1_0 l1_0.length c1_0, .slice A1_1 l1_1.length c1_1]) (t := 44) ?_; intro gb254 hg w20 hbox hb; have n0 := aM_ (nB_ BK253.out hb); have n1 := aM_ (sT_ HB.out hb); have n2 := aM_ (hbox); have n3 := aM_ (sZ_ hg HB.out); have n4 := aM_ (sZ_ hg HB.out); have n5 := aM_ (nL_ hg BK253.out); have n6 := aM_ (nG_ hg BK253.out); clear BK253; clear HB; have BK253 := n0; have HB := n1; have BK254 := n2; have GW254 := n3; have GE254 := n4; have NB253_254 := n5; have NB254_253 := n6; clear n0 n1 n2 n3 n4 n5 n6; clear hb hbox hg; have hnb21 := NB253_254.out; have hnc21 := NB254_253.out; obtain ⟨hcz22_0, hcz22_1, hfz22_0, hfz22_1⟩ := bR2_ BK253.out; obtain ⟨hcz23_0, hcz23_1, hfz23_0, hfz23_1⟩ := bR2_ BK254.out) | ((with_reducible refine gate_callee (f := 39) rfl ?_); refine gL_ (some 9) Try.func39 #[.slice A0_0 l0_0.length c0_0, .slice A1_0 l1_0.length c1_0] ?_; (with_reducible refine (laws_eqIntS.calls k _ _ l0_0 _ _ l1_0 false _ ?side1 ?side2 ?side3 ?side4 A3.out).mono ?_); (case side1 => exact cS_ (Kd.C_below HR0_0.out HB.out)); (case side2 => exact HC0_0.out); (case side3 => exact cS_ (Kd.C_below HR1_0.out HB.out)); (case side4 => exact HC1_0.out); rintro e w' ⟨rfl, ⟨nd, rfl⟩⟩; refine ⟨_, rfl, ?_⟩))
  go_ret
  exact fI_ HB.out
end Go.Proofs.Ytobachfngmpeiaa.PFnExactSourceNew
namespace Go.Proofs.Ytobachfngmpeiaa.Marks
open Go.RowKit Go.Proofs.YtobachfngmpeiaaW.PrintWords Go.Proofs.YtobachfngmpeiaaW.PrintLast Go.Proofs.YtobachfngmpeiaaW.PrintMore
set_option linter.unusedVariables false
def Sc (v v' : Value) : Prop := v' = v ∨ (∃ k n n', v = .int k n ∧ v' = .int k n') ∨ (∃ b b', v = .bool b ∧ v' = .bool b')
theorem Sc.refl (v : Value) : Sc v v := .inl rfl
theorem Sc.trans {a b c : Value} (h : Sc a b) (k : Sc b c) : Sc a c := by
  rcases h with rfl | ⟨_, _, _, rfl, rfl⟩ | ⟨_, _, rfl, rfl⟩
  · exact k
  · rcases k with rfl | ⟨_, _, n', h1, rfl⟩ | ⟨_, _, h1, _⟩
    · exact .inr (.inl ⟨_, _, _, rfl, rfl⟩)
    · cases h1
      exact .inr (.inl ⟨_, _, _, rfl, rfl⟩)
    · cases h1
  · rcases k with rfl | ⟨_, _, _, h1, _⟩ | ⟨_, b', h1, rfl⟩
    · exact .inr (.inr ⟨_, _, rfl, rfl⟩)
    · cases h1
    · exact .inr (.inr ⟨_, _, rfl, rfl⟩)
def Mk (P : Nat → Prop) (w w' : World) : Prop := Kept w w' P ∧ Below 0 w w' ∧ ∀ (g : Nat) (cs : Array Value) (t : TypeId), w.heap[g]? = some (.cells cs t (0, 0)) → ∃ cs' : Array Value, w'.heap[g]? = some (.cells cs' t (0, 0)) ∧ ∀ (j : Nat) v, cs[j]? = some v → ∃ v', cs'[j]? = some v' ∧ Sc v v'
section
variable {P P' : Nat → Prop} {w w' w1 W : World}
theorem Mk.refl (P : Nat → Prop) (w : World) : Mk P w w := ⟨Kept.refl w P, Below.refl _ _, fun g cs t h => ⟨cs, h, fun j v hj => ⟨v, hj, Sc.refl v⟩⟩⟩
theorem Mk.trans (h : Mk P w w1) (k : Mk P w1 w') : Mk P w w' := by
  refine ⟨h.1.then_ k.1 (fun _ h2 => .inl h2), h.2.1.trans k.2.1, fun g cs t hg => ?_⟩
  obtain ⟨cs1, h1, e1⟩ := h.2.2 g cs t hg
  obtain ⟨cs2, h2, e2⟩ := k.2.2 g cs1 t h1
  refine ⟨cs2, h2, fun j v hj => ?_⟩
  obtain ⟨v1, hv1, s1⟩ := e1 j v hj
  obtain ⟨v2, hv2, s2⟩ := e2 j v1 hv1
  exact ⟨v2, hv2, s1.trans s2⟩
theorem Mk.mono (h : Mk P w w') (hp : ∀ k, P k → P' k) : Mk P' w w' := ⟨h.1.mono hp, h.2⟩
theorem Mk.drewN (h : Mk P w W) (n : Nat) : Mk P w (W.drewN n) := ⟨h.1, pw_below_drewN h.2.1 n, h.2.2⟩
theorem Mk.drew (h : Mk P w W) : Mk P w W.drew := ⟨h.1, below_drew h.2.1, h.2.2⟩
theorem Mk.below (h : Mk P w w') {B : Nat} (hB : B ≤ w.heap.size) (hP : ∀ k, P k → B ≤ k) : Below B w w' := ⟨h.2.1.os, h.2.1.tape, h.2.1.output, h.2.1.size, fun k hk => h.1.2 k (Nat.lt_of_lt_of_le hk hB) (fun hp => by have := hP k hp; omega)⟩
theorem below_set0 (W : World) (a : Addr) (u : Value) : Below 0 W (W.setCell a u) := ⟨rfl, rfl, rfl, by simp [World.setCell], fun k hk => by omega⟩
theorem Mk.of_below (hb : Below w.heap.size w w') : Mk P w w' := ⟨Kept.of_below hb P, hb.mono (Nat.zero_le _), fun g cs t hg => ⟨cs, (hb.block g (blk_lt hg)).trans hg, fun j v hj => ⟨v, hj, Sc.refl v⟩⟩⟩
theorem Mk.set (h : Mk P w W) {g o : Nat} (hP : P g) {v u : Value} (hc : W.cell? ⟨g, o, none⟩ = some v) (hs : Sc v u) : Mk P w (W.setCell ⟨g, o, none⟩ u) := by
  refine ⟨h.1.setCell (.inl hP) u, h.2.1.trans (below_set0 _ _ _), fun g' cs t hg => ?_⟩
  obtain ⟨cs1, h1, e1⟩ := h.2.2 g' cs t hg
  by_cases e : g' = g
  · subst e
    refine ⟨_, blk_set h1 o u, fun j v0 hj => ?_⟩
    obtain ⟨v1, hv1, s1⟩ := e1 j v0 hj
    by_cases ej : j = o
    · subst ej
      have hv : v1 = v := Option.some.inj (hv1.symm.trans ((blk_cell h1 j).symm.trans hc))
      subst hv
      have hlt : j < cs1.size := (Array.getElem?_eq_some_iff.1 hv1).1
      exact ⟨u, by rw [Array.getElem?_setIfInBounds_self]; simp [hlt], s1.trans hs⟩
    · exact ⟨v1, by rw [Array.getElem?_setIfInBounds_ne (Ne.symm ej)]; exact hv1, s1⟩
  · exact ⟨cs1, (Below.heap_setCell W ⟨g, o, none⟩ u g' e).trans h1, e1⟩
end
def IntAt (w : World) (g o : Nat) : Prop := ∃ (cs : Array Value) (t : TypeId) (n : Int), w.heap[g]? = some (.cells cs t (0, 0)) ∧ cs[o]? = some (.int .i64 n)
def BoolAt (w : World) (g o : Nat) : Prop := ∃ (cs : Array Value) (t : TypeId) (b : Bool), w.heap[g]? = some (.cells cs t (0, 0)) ∧ cs[o]? = some (.bool b)
def SlAt (w : World) (g o : Nat) (A : Option Addr) (n c : Nat) : Prop := ∃ (cs : Array Value) (t : TypeId), w.heap[g]? = some (.cells cs t (0, 0)) ∧ cs[o]? = some (.slice A n c)
section
variable {P : Nat → Prop} {w w' : World} {g o n c : Nat} {A : Option Addr}
theorem IntAt.mk (h : IntAt w g o) (k : Mk P w w') : IntAt w' g o := by
  obtain ⟨cs, t, n, h1, h2⟩ := h
  obtain ⟨cs', h3, e⟩ := k.2.2 g cs t h1
  obtain ⟨v', h4, s⟩ := e o _ h2
  rcases s with rfl | ⟨_, _, n', h5, rfl⟩ | ⟨_, _, h5, _⟩
  · exact ⟨cs', t, n, h3, h4⟩
  · cases h5
    exact ⟨cs', t, n', h3, h4⟩
  · cases h5
theorem BoolAt.mk (h : BoolAt w g o) (k : Mk P w w') : BoolAt w' g o := by
  obtain ⟨cs, t, n, h1, h2⟩ := h
  obtain ⟨cs', h3, e⟩ := k.2.2 g cs t h1
  obtain ⟨v', h4, s⟩ := e o _ h2
  rcases s with rfl | ⟨_, _, n', h5, rfl⟩ | ⟨_, b', h5, rfl⟩
  · exact ⟨cs', t, n, h3, h4⟩
  · cases h5
  · exact ⟨cs', t, b', h3, h4⟩
theorem SlAt.mk (h : SlAt w g o A n c) (k : Mk P w w') : SlAt w' g o A n c := by
  obtain ⟨cs, t, h1, h2⟩ := h
  obtain ⟨cs', h3, e⟩ := k.2.2 g cs t h1
  obtain ⟨v', h4, s⟩ := e o _ h2
  rcases s with rfl | ⟨_, _, n', h5, rfl⟩ | ⟨_, b', h5, rfl⟩
  · exact ⟨cs', t, h3, h4⟩
  · cases h5
  · cases h5
theorem IntAt.cell (h : IntAt w g o) : ∃ n, w.cell? ⟨g, o, none⟩ = some (.int .i64 n) ∧ w.frozen? ⟨g, o, none⟩ = false := by
  obtain ⟨cs, t, n, h1, h2⟩ := h
  exact ⟨n, (blk_cell h1 o).trans h2, blk_frozen h1 o⟩
theorem BoolAt.cell (h : BoolAt w g o) : ∃ n, w.cell? ⟨g, o, none⟩ = some (.bool n) ∧ w.frozen? ⟨g, o, none⟩ = false := by
  obtain ⟨cs, t, n, h1, h2⟩ := h
  exact ⟨n, (blk_cell h1 o).trans h2, blk_frozen h1 o⟩
theorem SlAt.cell (h : SlAt w g o A n c) : w.cell? ⟨g, o, none⟩ = some (.slice A n c) := by
  obtain ⟨cs, t, h1, h2⟩ := h
  exact (blk_cell h1 o).trans h2
end
abbrev Cel := Nat × Nat × Bool
def cellv (b : Bool) (k : Int) : Value := if b = true then .bool (decide (Int.tmod k 3 = 0)) else .int .i64 k
def writes : World → List Cel → Int → World
  | w, [], _ => w
  | w, c :: L, k => writes (w.setCell ⟨c.1, c.2.1, none⟩ (cellv c.2.2 k)) L (k + 1)
theorem writes_append : ∀ (L M : List Cel) (w : World) (k : Int), writes w (L ++ M) k = writes (writes w L k) M (k + L.length)
  | [], M, w, k => by simp [writes]
  | c :: L, M, w, k => by
    rw [List.cons_append, writes, writes, writes_append L M, List.length_cons]
    congr 1
    omega
theorem drewN_set (w : World) (n : Nat) (a : Addr) (v : Value) : (w.drewN n).setCell a v = (w.setCell a v).drewN n := rfl
theorem writes_drewN : ∀ (L : List Cel) (w : World) (n : Nat) (k : Int), writes (w.drewN n) L k = (writes w L k).drewN n
  | [], w, n, k => rfl
  | c :: L, w, n, k => by
    rw [writes, writes, drewN_set, writes_drewN L]
def Wr (w : World) (L : List Cel) (k : Int) (w' : World) : Prop := ∃ n, w' = (writes w L k).drewN n
section
variable {w w' w1 w2 : World} {L M : List Cel} {k k2 : Int}
theorem Wr.refl (w : World) (k : Int) : Wr w [] k w := ⟨0, rfl⟩
theorem Wr.drewN (h : Wr w L k w') (n : Nat) : Wr w L k (w'.drewN n) := by
  obtain ⟨m, rfl⟩ := h
  exact ⟨m + n, World.drewN_drewN ..⟩
theorem Wr.trans (h : Wr w L k w1) (h2 : Wr w1 M k2 w2) (e : k2 = k + L.length) : Wr w (L ++ M) k w2 := by
  obtain ⟨m, rfl⟩ := h
  obtain ⟨n, rfl⟩ := h2
  subst e
  rw [writes_drewN, ← writes_append]
  exact ⟨m + n, World.drewN_drewN ..⟩
theorem Wr.set (h : Wr w L k w') {g o : Nat} (b : Bool) {v : Value} (e : v = cellv b (k + L.length)) : Wr w (L ++ [(g, o, b)]) k (w'.setCell ⟨g, o, none⟩ v) :=
  h.trans (k2 := k + L.length) (M := [(g, o, b)]) ⟨0, by subst e; rfl⟩ rfl
theorem Wr.cast (h : Wr w L k w') (e : L = M) : Wr w M k w' := e ▸ h
end
inductive Ty where
  | int | bool | pair (a b : Ty) | sl (a : Ty)
def Ty.sz : Ty → Nat
  | .int => 1
  | .bool => 1
  | .sl _ => 1
  | .pair a b => a.sz + b.sz
def cat (Ls : Nat → List Cel) (n : Nat) : List Cel := (List.range n).flatMap Ls
theorem cat_succ (Ls : Nat → List Cel) (n : Nat) : cat Ls (n + 1) = cat Ls n ++ Ls n := by simp [cat, List.range_succ]
theorem cat_le (Ls : Nat → List Cel) {j n : Nat} (h : j < n) : (cat Ls j).length + (Ls j).length ≤ (cat Ls n).length := by
  have h1 : ∀ d, (cat Ls (j + 1)).length ≤ (cat Ls (j + 1 + d)).length := by
    intro d
    induction d with
    | zero => exact Nat.le_refl _
    | succ d ih => rw [← Nat.add_assoc, cat_succ Ls (j + 1 + d), List.length_append]; omega
  have h2 := h1 (n - (j + 1))
  rw [show j + 1 + (n - (j + 1)) = n by omega, cat_succ, List.length_append] at h2
  exact h2
def Vis (P : Nat → Prop) (w : World) : Ty → Nat → Nat → List Cel → Prop
  | .int, g, o, L => L = [(g, o, false)] ∧ IntAt w g o
  | .bool, g, o, L => L = [(g, o, true)] ∧ BoolAt w g o
  | .pair a b, g, o, L => ∃ L1 L2, L = L1 ++ L2 ∧ Vis P w a g o L1 ∧ Vis P w b g (o + a.sz) L2
  | .sl a, g, o, L => ∃ A n c, SlAt w g o A n c ∧ n ≤ 9223372036854775807 ∧ ∃ Ls, L = cat Ls n ∧ (0 < n → ∃ g', A = some ⟨g', 0, none⟩ ∧ P g' ∧ ∀ i, i < n → Vis P w a g' (i * a.sz) (Ls i))
def RowV (P : Nat → Prop) (w : World) (a : Ty) (A : Option Addr) (n : Nat) (L : List Cel) : Prop := n ≤ 9223372036854775807 ∧ ∃ Ls, L = cat Ls n ∧ (0 < n → ∃ g', A = some ⟨g', 0, none⟩ ∧ P g' ∧ ∀ i, i < n → Vis P w a g' (i * a.sz) (Ls i))
theorem Vis.mk {P Q : Nat → Prop} {w w' : World} (k : Mk Q w w') : ∀ {t : Ty} {g o : Nat} {L : List Cel}, Vis P w t g o L → Vis P w' t g o L
  | .int, g, o, L, h => ⟨h.1, h.2.mk k⟩
  | .bool, g, o, L, h => ⟨h.1, h.2.mk k⟩
  | .pair a b, g, o, L, ⟨L1, L2, e, h1, h2⟩ => ⟨L1, L2, e, Vis.mk k h1, Vis.mk k h2⟩
  | .sl a, g, o, L, ⟨A, n, c, hs, hb, Ls, e, h⟩ => ⟨A, n, c, hs.mk k, hb, Ls, e, fun hn => by
    obtain ⟨g', e', hp, hi⟩ := h hn
    exact ⟨g', e', hp, fun i hl => Vis.mk k (hi i hl)⟩⟩
theorem RowV.mk {P Q : Nat → Prop} {w w' : World} (k : Mk Q w w') {t : Ty} {A : Option Addr} {n : Nat} {L : List Cel} (h : RowV P w t A n L) : RowV P w' t A n L := by
  obtain ⟨hb, Ls, e, h⟩ := h
  exact ⟨hb, Ls, e, fun hn => by
    obtain ⟨g', e', hp, hi⟩ := h hn
    exact ⟨g', e', hp, fun i hl => Vis.mk k (hi i hl)⟩⟩
def HeldAt (w : World) (L : List Cel) (k : Int) : Prop := ∀ (j : Nat) (c : Cel), L[j]? = some c → w.cell? ⟨c.1, c.2.1, none⟩ = some (cellv c.2.2 (k + j))
section
variable {w w' : World} {L M : List Cel} {k : Int}
theorem HeldAt.left (h : HeldAt w (L ++ M) k) : HeldAt w L k := fun j c hj => h j c (by rw [List.getElem?_append_left (List.getElem?_eq_some_iff.1 hj).1]; exact hj)
theorem HeldAt.right (h : HeldAt w (L ++ M) k) : HeldAt w M (k + L.length) := fun j c hj => by
  have := h (L.length + j) c (by rw [List.getElem?_append_right (by omega), Nat.add_sub_cancel_left]; exact hj)
  rw [this]
  congr 2
  push_cast
  omega
theorem HeldAt.one {g o : Nat} {b : Bool} (h : HeldAt w [(g, o, b)] k) : w.cell? ⟨g, o, none⟩ = some (cellv b k) := by
  have := h 0 (g, o, b) rfl
  simpa using this
theorem HeldAt.cat {Ls : Nat → List Cel} {n j : Nat} (h : HeldAt w (cat Ls n) k) (hj : j < n) : HeldAt w (Ls j) (k + (Marks.cat Ls j).length) := by
  have e : ∃ T, Marks.cat Ls n = Marks.cat Ls j ++ (Ls j ++ T) := by
    have h1 : ∀ d, ∃ T, Marks.cat Ls (j + 1 + d) = Marks.cat Ls (j + 1) ++ T := by
      intro d
      induction d with
      | zero => exact ⟨[], by simp⟩
      | succ d ih =>
        obtain ⟨T, e⟩ := ih
        exact ⟨T ++ Ls (j + 1 + d), by rw [← Nat.add_assoc, cat_succ Ls (j + 1 + d), e, List.append_assoc]⟩
    obtain ⟨T, e⟩ := h1 (n - (j + 1))
    rw [show j + 1 + (n - (j + 1)) = n by omega, cat_succ, List.append_assoc] at e
    exact ⟨T, e⟩
  obtain ⟨T, e⟩ := e
  rw [e] at h
  exact h.right.left
end
theorem RowV.drewN {P : Nat → Prop} {w : World} {t : Ty} {A : Option Addr} {n : Nat} {L : List Cel} (h : RowV P w t A n L) (m : Nat) : RowV P (w.drewN m) t A n L := RowV.mk (Q := fun _ => False) ((Mk.refl _ w).drewN m) h
theorem HeldAt.drewN {w : World} {L : List Cel} {k : Int} (h : HeldAt w L k) (m : Nat) : HeldAt (w.drewN m) L k := h
theorem wrap_in {n : Int} (h0 : -9223372036854775808 ≤ n) (h1 : n ≤ 9223372036854775807) : wrap64 n = n := by
  unfold wrap64
  omega
end Go.Proofs.Ytobachfngmpeiaa.Marks
