/- A part of the proof that the law FnExactChanSame holds for every input: the words, functions and walks that its row needs, without a condition of their own. -/
import Derived.Test.YtobachfngmpeiaaZFnExactChanSamea2
import Derived.Test.YtobachfngmpeiaaZFnExactChanSamea7
import Derived.Test.YtobachfngmpeiaaZFnExactChanSames
namespace Go.Proofs.Ytobachfngmpeiaa.PFnExactChanSame
open Go.RowKit Go.Proofs.YtobachfngmpeiaaW.PrintWords Go.Proofs.YtobachfngmpeiaaW.PrintLast Go.Proofs.YtobachfngmpeiaaW.PrintMore
attribute [local go_sem] max2_int min2_int max_two min_two max_three min_three max_four min_four   -- for this text's walks alone
set_option linter.unusedVariables false
set_option linter.unusedSimpArgs false
def laws_eqStepS.l0 : Nat → List (S175) → List (S175) → Int → Option (Bool)
  | 0,_,_,_ => none
  | k + 1,x0,x1,x5 => if x5 < (x0.length : Int) then (if 0 ≤ x5 then (if x5 < (x1.length : Int) then ((laws_eqStep.f ((rd_T175 x0 x5).f0) ((rd_T175 x0 x5).f1) ((rd_T175 x0 x5).f2) ((rd_T175 x0 x5).f3) ((rd_T175 x0 x5).f4) ((rd_T175 x1 x5).f0) ((rd_T175 x1 x5).f1) ((rd_T175 x1 x5).f2) ((rd_T175 x1 x5).f3) ((rd_T175 x1 x5).f4)).bind fun t181 => (if t181 = true then (laws_eqStepS.l0 k x0 x1 (wrap64 (x5 + 1))) else (some false))) else (none)) else (none)) else (some true)
def laws_eqStepS.f (k : Nat) (l0 : List (S175)) (l1 : List (S175)) : Option (Bool) := if (l0.length : Int) = (l1.length : Int) then (laws_eqStepS.l0 k l0 l1 0) else (some false)
def laws_eqStepS.T6 : Bool × List (List Nat × List Nat) := (true,[([],[]),([],[]),([0,1],[0,1]),([2],[2]),([],[]),([],[]),([4,5],[4,5]),([6],[6]),([3,7],[3,7]),([8],[8])])
def laws_eqStepS.B6 : List Nat := [0,0,3,7,0,0,48,112,255,511]
theorem laws_eqStepS.tab6 : rtab .any (opsOf Try.f84 6) = laws_eqStepS.T6 := by kernel_rfl
theorem laws_eqStepS.bits6 : waitsOk laws_eqStepS.T6.2 laws_eqStepS.B6 = true := by kernel_rfl
set_option maxHeartbeats 8000000 in
set_option maxRecDepth 100000 in
theorem laws_eqStepS.calls (k : Nat) (A0 : Option Addr) (c0 : Nat) (l0 : List (S175)) (A1 : Option Addr) (c1 : Nat) (l1 : List (S175)) (r : Bool) (w : World) (hr0 : Kd.C k175 w A0 l0.length l0) (hc0 : l0.length ≤ c0) (hr1 : Kd.C k175 w A1 l1.length l1) (hc1 : l1.length ≤ c1) (h : laws_eqStepS.f k l0 l1 = some r) :
  Calls Try.prog 84 #[.slice A0 l0.length c0,.slice A1 l1.length c1] w fun e w' => e = .returned (.bool r) ∧ Below w.heap.size w w' := by
 have hu175 := Try.underlying175
 have HR0 := aM_ hr0
 have HC0 := aM_ hc0
 clear hr0 hc0
 have HR1 := aM_ hr1
 have HC1 := aM_ hc1
 clear hr1 hc1
 have HB := aM_ (Below.refl w.heap.size w)
 have H : (if (l0.length : Int) = (l1.length : Int) then (laws_eqStepS.l0 k l0 l1 0) else (some false)) = some r := h
 clear h
 by_cases c3 : (l0.length : Int) = (l1.length : Int)
 ·rw [if_pos c3] at H
  have c3b0 : ((l0.length : Int) == (l1.length : Int)) = true := beq_iff_eq.mpr c3
  have c3b1 : ((l0.length : Int) != (l1.length : Int)) = false := bne_eq_false_iff_eq.mpr c3
  have c3b2 : (l0.length == l1.length) = true := by first | simpa using c3 | (simp at c3 ⊢;omega)
  clear c3
  have H' := aM_ H
  clear H
  go_enter Try.func84,Try.ntmps84
  go_wp2
  go_loopg [5] k (fun kq v5 w' => ∃ (x5_1 : Int),v5 = .int .i64 x5_1 ∧ Aside0 (laws_eqStepS.l0 kq l0 l1 x5_1 = some r) ∧ Aside0 (kq ≤ k) ∧ Aside0 (Below w.heap.size w w'))
  case atStart => exact ⟨(0),(by first | rfl | (simp;done) | (simp [*];done)),H',⟨Nat.le_refl _⟩,⟨gW_ HB.out⟩⟩
  case round =>
   clear H'
   try clear c1
   try clear p2
   try clear c3
   try clear c3b0
   try clear c3b1
   try clear c3b2
   obtain ⟨x5_1,rfl,HA,HK1,HB⟩ := hrel
   cases gk with
   | zero => exact absurd HA.out (by simp [laws_eqStepS.l0])
   | succ k1 =>
    have H := HA.out
    clear HA
    simp only [laws_eqStepS.l0] at H
    by_cases c4 : x5_1 < (l0.length : Int)
    ·rw [if_pos c4] at H
     have c4b0 : decide (x5_1 < (l0.length : Int)) = true := decide_eq_true c4
     clear c4
     by_cases c5 : 0 ≤ x5_1
     ·rw [if_pos c5] at H
      have c5b0 : decide (0 ≤ x5_1) = true := decide_eq_true c5
      clear c5
      by_cases c6 : x5_1 < (l1.length : Int)
      ·rw [if_pos c6] at H
       have c6b0 : decide (x5_1 < (l1.length : Int)) = true := decide_eq_true c6
       clear c6
       replace H := Option.bind_eq_some_iff.mp H
       obtain ⟨t181,A70,H⟩ := H
       replace H : (if t181 = true then (laws_eqStepS.l0 k1 l0 l1 (wrap64 (x5_1 + 1))) else (some false)) = some r := H
       have A7 := aM_ A70
       clear A70
       by_cases c8 : t181 = true
       ·subst c8
        have H1 : (laws_eqStepS.l0 k1 l0 l1 (wrap64 (x5_1 + 1))) = some r := by rw [if_pos rfl] at H;exact H
        clear H
        have H := H1
        clear H1
        have H' := aM_ H
        clear H
        try go_wp2
        have n0 := aM_ (below_drew1 HB.out)
        clear HB
        have HB := n0
        clear n0
        have p179 : 0 ≤ (x5_1 : Int) := of_decide_eq_true (by first | (with_reducible assumption) | assumption)
        have q179 : x5_1 < (l0.length : Int) := of_decide_eq_true (by first | (with_reducible assumption) | assumption)
        obtain ⟨ad179,e179,hx179_0,hx179_1,hx179_2,hx179_3,hx179_4⟩ := at_T175 HR0.out x5_1 p179 q179
        have hw179_4 := hx179_4
        have hw179_3 := hx179_3
        have hw179_2 := hx179_2
        have hw179_1 := hx179_1
        have hw179_0 := hx179_0
        cases e179
        replace hx179_0 := cB_ HB.out hx179_0
        replace hx179_1 := cB_ HB.out hx179_1
        replace hx179_2 := cB_ HB.out hx179_2
        replace hx179_3 := cB_ HB.out hx179_3
        replace hx179_4 := cB_ HB.out hx179_4
        replace p179 := eq_true p179
        replace q179 := eq_true q179
        have p180 : 0 ≤ (x5_1 : Int) := of_decide_eq_true (by first | (with_reducible assumption) | assumption)
        have q180 : x5_1 < (l1.length : Int) := of_decide_eq_true (by first | (with_reducible assumption) | assumption)
        obtain ⟨ad180,e180,hx180_0,hx180_1,hx180_2,hx180_3,hx180_4⟩ := at_T175 HR1.out x5_1 p180 q180
        have hw180_4 := hx180_4
        have hw180_3 := hx180_3
        have hw180_2 := hx180_2
        have hw180_1 := hx180_1
        have hw180_0 := hx180_0
        cases e180
        replace hx180_0 := cB_ HB.out hx180_0
        replace hx180_1 := cB_ HB.out hx180_1
        replace hx180_2 := cB_ HB.out hx180_2
        replace hx180_3 := cB_ HB.out hx180_3
        replace hx180_4 := cB_ HB.out hx180_4
        replace p180 := eq_true p180
        replace q180 := eq_true q180
        refine start_ (n := 10) (S := fun w' => w'.cell? (ad179.add ((x5_1).toNat * 5)) = some (.int .i64 ((rd_T175 l0 x5_1).f0)) ∧ w'.cell? ⟨(ad179.add ((x5_1).toNat * 5)).block,(ad179.add ((x5_1).toNat * 5)).off + 1,none⟩ = some (.int .i64 ((rd_T175 l0 x5_1).f1)) ∧ w'.cell? ⟨(ad179.add ((x5_1).toNat * 5)).block,(ad179.add ((x5_1).toNat * 5)).off + 2,none⟩ = some (.int .i64 ((rd_T175 l0 x5_1).f2)) ∧ w'.cell? ⟨(ad179.add ((x5_1).toNat * 5)).block,(ad179.add ((x5_1).toNat * 5)).off + 3,none⟩ = some (.int .i64 ((rd_T175 l0 x5_1).f3)) ∧ w'.cell? ⟨(ad179.add ((x5_1).toNat * 5)).block,(ad179.add ((x5_1).toNat * 5)).off + 4,none⟩ = some (.int .i64 ((rd_T175 l0 x5_1).f4)) ∧ w'.cell? (ad180.add ((x5_1).toNat * 5)) = some (.int .i64 ((rd_T175 l1 x5_1).f0)) ∧ w'.cell? ⟨(ad180.add ((x5_1).toNat * 5)).block,(ad180.add ((x5_1).toNat * 5)).off + 1,none⟩ = some (.int .i64 ((rd_T175 l1 x5_1).f1)) ∧ w'.cell? ⟨(ad180.add ((x5_1).toNat * 5)).block,(ad180.add ((x5_1).toNat * 5)).off + 2,none⟩ = some (.int .i64 ((rd_T175 l1 x5_1).f2)) ∧ w'.cell? ⟨(ad180.add ((x5_1).toNat * 5)).block,(ad180.add ((x5_1).toNat * 5)).off + 3,none⟩ = some (.int .i64 ((rd_T175 l1 x5_1).f3)) ∧ w'.cell? ⟨(ad180.add ((x5_1).toNat * 5)).block,(ad180.add ((x5_1).toNat * 5)).off + 4,none⟩ = some (.int .i64 ((rd_T175 l1 x5_1).f4))) (ds := []) (mk_ 10 0) (by kernel_rfl) rfl rfl ⟨(cB_ HB.out hw179_0 :),(cB_ HB.out hw179_1 :),(cB_ HB.out hw179_2 :),(cB_ HB.out hw179_3 :),(cB_ HB.out hw179_4 :),(cB_ HB.out hw180_0 :),(cB_ HB.out hw180_1 :),(cB_ HB.out hw180_2 :),(cB_ HB.out hw180_3 :),(cB_ HB.out hw180_4 :)⟩ (fun hHeld => ?_);refine with_tabW laws_eqStepS.tab6 laws_eqStepS.bits6 (fun HT_ HW_ => ?_)
        generalize wr.drew = w9 at HB hx179_0 hx179_1 hx179_2 hx179_3 hx179_4 hx180_0 hx180_1 hx180_2 hx180_3 hx180_4 hHeld ⊢
        refine pU_ 0 (some 17) (mk_ 10 1) ?_
        refine pU_ 1 (some 18) (mk_ 10 3) ?_
        refine pU_ 2 (some 19) (mk_ 10 7) ?_
        refine pU_ 4 (some 21) (mk_ 10 23) ?_
        refine pU_ 5 (some 22) (mk_ 10 55) ?_
        refine pU_ 6 (some 23) (mk_ 10 119) ?_
        refine tK10_ 3 (some 20) (mk_ 10 127) ?_
        refine tK10_ 7 (some 24) (mk_ 10 255) ?_
        refine oN_ 8 (some 25) (mk_ 10 511) (fun K hK => ?_)
        refine gO_ Try.func140 #[.agg #[.int .i64 ((rd_T175 l0 x5_1).f0),.int .i64 ((rd_T175 l0 x5_1).f1),.int .i64 ((rd_T175 l0 x5_1).f2),.int .i64 ((rd_T175 l0 x5_1).f3),.int .i64 ((rd_T175 l0 x5_1).f4)],.agg #[.int .i64 ((rd_T175 l1 x5_1).f0),.int .i64 ((rd_T175 l1 x5_1).f1),.int .i64 ((rd_T175 l1 x5_1).f2),.int .i64 ((rd_T175 l1 x5_1).f3),.int .i64 ((rd_T175 l1 x5_1).f4)]] ?_
        with_reducible refine (laws_eqStep.calls ((rd_T175 l0 x5_1).f0) ((rd_T175 l0 x5_1).f1) ((rd_T175 l0 x5_1).f2) ((rd_T175 l0 x5_1).f3) ((rd_T175 l0 x5_1).f4) ((rd_T175 l1 x5_1).f0) ((rd_T175 l1 x5_1).f1) ((rd_T175 l1 x5_1).f2) ((rd_T175 l1 x5_1).f3) ((rd_T175 l1 x5_1).f4) true _ A7.out).mono ?_
        rintro e w10 ⟨rfl,hb⟩
        refine ⟨_,rfl,?_⟩
        have n0 := aM_ (sT_ HB.out hb)
        clear HB
        have HB := n0
        clear n0
        (try clear hb)
        (try clear hb2)
        (try clear hk)
        (try clear hi)
        refine hK.out _ _ ⟨(cB_ HB.out hw179_0 :),(cB_ HB.out hw179_1 :),(cB_ HB.out hw179_2 :),(cB_ HB.out hw179_3 :),(cB_ HB.out hw179_4 :),(cB_ HB.out hw180_0 :),(cB_ HB.out hw180_1 :),(cB_ HB.out hw180_2 :),(cB_ HB.out hw180_3 :),(cB_ HB.out hw180_4 :)⟩ (fun hHeld => ?_)
        clear hK K
        refine norm_ (a' := ?_) ?_ ?_
        rotate_left
        ·show Act.put _ (some 25) _ = _
         simp only [pt_,pn_,sI_,s0_,s1_,i64_w,i32_w]
         rfl
        refine pU_ 9 (some 26) (mk_ 10 1023) ?_
        refine done_ (done_of HT_.out (by kernel_rfl)) ?_
        try go_wp2
        go_roundg k1
        case measure => have := HK1.out;omega
        case rel => exact ⟨(wrap64 (x5_1 + 1)),(by first | rfl | (simp;done) | (simp [*];done)),H',⟨by have := HK1.out;omega⟩,⟨gW_ HB.out⟩⟩
       ·replace c8 := Bool.eq_false_iff.mpr c8
        subst c8
        have H1 : (some false) = some r := by rw [if_neg (show ¬ (false = true) by decide)] at H;exact H
        clear H
        have H := H1
        clear H1
        obtain rfl := Option.some.inj H
        try go_wp2
        have n0 := aM_ (below_drew1 HB.out)
        clear HB
        have HB := n0
        clear n0
        have p179 : 0 ≤ (x5_1 : Int) := of_decide_eq_true (by first | (with_reducible assumption) | assumption)
        have q179 : x5_1 < (l0.length : Int) := of_decide_eq_true (by first | (with_reducible assumption) | assumption)
        obtain ⟨ad179,e179,hx179_0,hx179_1,hx179_2,hx179_3,hx179_4⟩ := at_T175 HR0.out x5_1 p179 q179
        have hw179_4 := hx179_4
        have hw179_3 := hx179_3
        have hw179_2 := hx179_2
        have hw179_1 := hx179_1
        have hw179_0 := hx179_0
        cases e179
        replace hx179_0 := cB_ HB.out hx179_0
        replace hx179_1 := cB_ HB.out hx179_1
        replace hx179_2 := cB_ HB.out hx179_2
        replace hx179_3 := cB_ HB.out hx179_3
        replace hx179_4 := cB_ HB.out hx179_4
        replace p179 := eq_true p179
        replace q179 := eq_true q179
        have p180 : 0 ≤ (x5_1 : Int) := of_decide_eq_true (by first | (with_reducible assumption) | assumption)
        have q180 : x5_1 < (l1.length : Int) := of_decide_eq_true (by first | (with_reducible assumption) | assumption)
        obtain ⟨ad180,e180,hx180_0,hx180_1,hx180_2,hx180_3,hx180_4⟩ := at_T175 HR1.out x5_1 p180 q180
        have hw180_4 := hx180_4
        have hw180_3 := hx180_3
        have hw180_2 := hx180_2
        have hw180_1 := hx180_1
        have hw180_0 := hx180_0
        cases e180
        replace hx180_0 := cB_ HB.out hx180_0
        replace hx180_1 := cB_ HB.out hx180_1
        replace hx180_2 := cB_ HB.out hx180_2
        replace hx180_3 := cB_ HB.out hx180_3
        replace hx180_4 := cB_ HB.out hx180_4
        replace p180 := eq_true p180
        replace q180 := eq_true q180
        refine start_ (n := 10) (S := fun w' => w'.cell? (ad179.add ((x5_1).toNat * 5)) = some (.int .i64 ((rd_T175 l0 x5_1).f0)) ∧ w'.cell? ⟨(ad179.add ((x5_1).toNat * 5)).block,(ad179.add ((x5_1).toNat * 5)).off + 1,none⟩ = some (.int .i64 ((rd_T175 l0 x5_1).f1)) ∧ w'.cell? ⟨(ad179.add ((x5_1).toNat * 5)).block,(ad179.add ((x5_1).toNat * 5)).off + 2,none⟩ = some (.int .i64 ((rd_T175 l0 x5_1).f2)) ∧ w'.cell? ⟨(ad179.add ((x5_1).toNat * 5)).block,(ad179.add ((x5_1).toNat * 5)).off + 3,none⟩ = some (.int .i64 ((rd_T175 l0 x5_1).f3)) ∧ w'.cell? ⟨(ad179.add ((x5_1).toNat * 5)).block,(ad179.add ((x5_1).toNat * 5)).off + 4,none⟩ = some (.int .i64 ((rd_T175 l0 x5_1).f4)) ∧ w'.cell? (ad180.add ((x5_1).toNat * 5)) = some (.int .i64 ((rd_T175 l1 x5_1).f0)) ∧ w'.cell? ⟨(ad180.add ((x5_1).toNat * 5)).block,(ad180.add ((x5_1).toNat * 5)).off + 1,none⟩ = some (.int .i64 ((rd_T175 l1 x5_1).f1)) ∧ w'.cell? ⟨(ad180.add ((x5_1).toNat * 5)).block,(ad180.add ((x5_1).toNat * 5)).off + 2,none⟩ = some (.int .i64 ((rd_T175 l1 x5_1).f2)) ∧ w'.cell? ⟨(ad180.add ((x5_1).toNat * 5)).block,(ad180.add ((x5_1).toNat * 5)).off + 3,none⟩ = some (.int .i64 ((rd_T175 l1 x5_1).f3)) ∧ w'.cell? ⟨(ad180.add ((x5_1).toNat * 5)).block,(ad180.add ((x5_1).toNat * 5)).off + 4,none⟩ = some (.int .i64 ((rd_T175 l1 x5_1).f4))) (ds := []) (mk_ 10 0) (by kernel_rfl) rfl rfl ⟨(cB_ HB.out hw179_0 :),(cB_ HB.out hw179_1 :),(cB_ HB.out hw179_2 :),(cB_ HB.out hw179_3 :),(cB_ HB.out hw179_4 :),(cB_ HB.out hw180_0 :),(cB_ HB.out hw180_1 :),(cB_ HB.out hw180_2 :),(cB_ HB.out hw180_3 :),(cB_ HB.out hw180_4 :)⟩ (fun hHeld => ?_);refine with_tabW laws_eqStepS.tab6 laws_eqStepS.bits6 (fun HT_ HW_ => ?_)
        generalize wr.drew = w11 at HB hx179_0 hx179_1 hx179_2 hx179_3 hx179_4 hx180_0 hx180_1 hx180_2 hx180_3 hx180_4 hHeld ⊢
        refine pU_ 0 (some 17) (mk_ 10 1) ?_
        refine pU_ 1 (some 18) (mk_ 10 3) ?_
        refine pU_ 2 (some 19) (mk_ 10 7) ?_
        refine pU_ 4 (some 21) (mk_ 10 23) ?_
        refine pU_ 5 (some 22) (mk_ 10 55) ?_
        refine pU_ 6 (some 23) (mk_ 10 119) ?_
        refine tK10_ 3 (some 20) (mk_ 10 127) ?_
        refine tK10_ 7 (some 24) (mk_ 10 255) ?_
        refine oN_ 8 (some 25) (mk_ 10 511) (fun K hK => ?_)
        refine gO_ Try.func140 #[.agg #[.int .i64 ((rd_T175 l0 x5_1).f0),.int .i64 ((rd_T175 l0 x5_1).f1),.int .i64 ((rd_T175 l0 x5_1).f2),.int .i64 ((rd_T175 l0 x5_1).f3),.int .i64 ((rd_T175 l0 x5_1).f4)],.agg #[.int .i64 ((rd_T175 l1 x5_1).f0),.int .i64 ((rd_T175 l1 x5_1).f1),.int .i64 ((rd_T175 l1 x5_1).f2),.int .i64 ((rd_T175 l1 x5_1).f3),.int .i64 ((rd_T175 l1 x5_1).f4)]] ?_
        with_reducible refine (laws_eqStep.calls ((rd_T175 l0 x5_1).f0) ((rd_T175 l0 x5_1).f1) ((rd_T175 l0 x5_1).f2) ((rd_T175 l0 x5_1).f3) ((rd_T175 l0 x5_1).f4) ((rd_T175 l1 x5_1).f0) ((rd_T175 l1 x5_1).f1) ((rd_T175 l1 x5_1).f2) ((rd_T175 l1 x5_1).f3) ((rd_T175 l1 x5_1).f4) false _ A7.out).mono ?_
        rintro e w12 ⟨rfl,hb⟩
        refine ⟨_,rfl,?_⟩
        have n0 := aM_ (sT_ HB.out hb)
        clear HB
        have HB := n0
        clear n0
        (try clear hb)
        (try clear hb2)
        (try clear hk)
        (try clear hi)
        refine hK.out _ _ ⟨(cB_ HB.out hw179_0 :),(cB_ HB.out hw179_1 :),(cB_ HB.out hw179_2 :),(cB_ HB.out hw179_3 :),(cB_ HB.out hw179_4 :),(cB_ HB.out hw180_0 :),(cB_ HB.out hw180_1 :),(cB_ HB.out hw180_2 :),(cB_ HB.out hw180_3 :),(cB_ HB.out hw180_4 :)⟩ (fun hHeld => ?_)
        clear hK K
        refine norm_ (a' := ?_) ?_ ?_
        rotate_left
        ·show Act.put _ (some 25) _ = _
         simp only [pt_,pn_,sI_,s0_,s1_,i64_w,i32_w]
         rfl
        refine pU_ 9 (some 26) (mk_ 10 1023) ?_
        refine done_ (done_of HT_.out (by kernel_rfl)) ?_
        try go_wp2
        go_ret
        exact fI_ HB.out
      ·rw [if_neg c6] at H
       exact absurd H (by simp)
     ·rw [if_neg c5] at H
      exact absurd H (by simp)
    ·rw [if_neg c4] at H
     have c4b0 : decide (x5_1 < (l0.length : Int)) = false := decide_eq_false c4
     clear c4
     obtain rfl := Option.some.inj H
     go_wp2
     go_ret
     exact fI_ HB.out
 ·rw [if_neg c3] at H
  have c3b0 : ((l0.length : Int) == (l1.length : Int)) = false := beq_eq_false_iff_ne.mpr c3
  have c3b1 : ((l0.length : Int) != (l1.length : Int)) = true := bne_iff_ne.mpr c3
  have c3b2 : (l0.length == l1.length) = false := by first | simpa using c3 | (simp at c3 ⊢;omega)
  obtain rfl := Option.some.inj H
  go_enter Try.func84,Try.ntmps84
  go_wp2
  go_ret
  exact fI_ HB.out
def laws_eqStepSS.l0 : Nat → List (List (S175)) → List (List (S175)) → Int → Option (Bool)
  | 0,_,_,_ => none
  | k + 1,x0,x1,x5 => if x5 < (x0.length : Int) then (if 0 ≤ x5 then (if x5 < (x1.length : Int) then ((laws_eqStepS.f k (rd_L11 x0 x5) (rd_L11 x1 x5)).bind fun t184 => (if t184 = true then (laws_eqStepSS.l0 k x0 x1 (wrap64 (x5 + 1))) else (some false))) else (none)) else (none)) else (some true)
def laws_eqStepSS.f (k : Nat) (l0 : List (List (S175))) (l1 : List (List (S175))) : Option (Bool) := if (l0.length : Int) = (l1.length : Int) then (laws_eqStepSS.l0 k l0 l1 0) else (some false)
def laws_eqStepSS.T6 : Bool × List (List Nat × List Nat) := (true,[([],[]),([],[]),([0,1],[0,1]),([2],[2]),([],[]),([],[]),([4,5],[4,5]),([6],[6]),([3,7],[3,7]),([8],[8])])
def laws_eqStepSS.B6 : List Nat := [0,0,3,7,0,0,48,112,255,511]
theorem laws_eqStepSS.tab6 : rtab .any (opsOf Try.f29 6) = laws_eqStepSS.T6 := by kernel_rfl
theorem laws_eqStepSS.bits6 : waitsOk laws_eqStepSS.T6.2 laws_eqStepSS.B6 = true := by kernel_rfl
set_option maxHeartbeats 8000000 in
set_option maxRecDepth 100000 in
theorem laws_eqStepSS.calls (k : Nat) (A0 : Option Addr) (c0 : Nat) (l0 : List (List (S175))) (A1 : Option Addr) (c1 : Nat) (l1 : List (List (S175))) (r : Bool) (w : World) (hr0 : Kd.C (Kd.slice 175 k175) w A0 l0.length l0) (hc0 : l0.length ≤ c0) (hr1 : Kd.C (Kd.slice 175 k175) w A1 l1.length l1) (hc1 : l1.length ≤ c1) (h : laws_eqStepSS.f k l0 l1 = some r) :
  Calls Try.prog 29 #[.slice A0 l0.length c0,.slice A1 l1.length c1] w fun e w' => e = .returned (.bool r) ∧ Below w.heap.size w w' := by
 have HR0 := aM_ hr0
 have HC0 := aM_ hc0
 clear hr0 hc0
 have HR1 := aM_ hr1
 have HC1 := aM_ hc1
 clear hr1 hc1
 have HB := aM_ (Below.refl w.heap.size w)
 have H : (if (l0.length : Int) = (l1.length : Int) then (laws_eqStepSS.l0 k l0 l1 0) else (some false)) = some r := h
 clear h
 by_cases c3 : (l0.length : Int) = (l1.length : Int)
 ·rw [if_pos c3] at H
  have c3b0 : ((l0.length : Int) == (l1.length : Int)) = true := beq_iff_eq.mpr c3
  have c3b1 : ((l0.length : Int) != (l1.length : Int)) = false := bne_eq_false_iff_eq.mpr c3
  have c3b2 : (l0.length == l1.length) = true := by first | simpa using c3 | (simp at c3 ⊢;omega)
  clear c3
  have H' := aM_ H
  clear H
  go_enter Try.func29,Try.ntmps29
  go_wp2
  go_loopg [5] k (fun kq v5 w' => ∃ (x5_1 : Int),v5 = .int .i64 x5_1 ∧ Aside0 (laws_eqStepSS.l0 kq l0 l1 x5_1 = some r) ∧ Aside0 (kq ≤ k) ∧ Aside0 (Below w.heap.size w w'))
  case atStart => exact ⟨(0),(by first | rfl | (simp;done) | (simp [*];done)),H',⟨Nat.le_refl _⟩,⟨gW_ HB.out⟩⟩
  case round =>
   clear H'
   try clear c1
   try clear c2
   try clear p2
   try clear c3
   try clear c3b0
   try clear c3b1
   try clear c3b2
   obtain ⟨x5_1,rfl,HA,HK1,HB⟩ := hrel
   cases gk with
   | zero => exact absurd HA.out (by simp [laws_eqStepSS.l0])
   | succ k1 =>
    have H := HA.out
    clear HA
    simp only [laws_eqStepSS.l0] at H
    by_cases c4 : x5_1 < (l0.length : Int)
    ·rw [if_pos c4] at H
     have c4b0 : decide (x5_1 < (l0.length : Int)) = true := decide_eq_true c4
     clear c4
     by_cases c5 : 0 ≤ x5_1
     ·rw [if_pos c5] at H
      have c5b0 : decide (0 ≤ x5_1) = true := decide_eq_true c5
      clear c5
      by_cases c6 : x5_1 < (l1.length : Int)
      ·rw [if_pos c6] at H
       have c6b0 : decide (x5_1 < (l1.length : Int)) = true := decide_eq_true c6
       clear c6
       replace H := Option.bind_eq_some_iff.mp H
       obtain ⟨t184,A70,H⟩ := H
       replace H : (if t184 = true then (laws_eqStepSS.l0 k1 l0 l1 (wrap64 (x5_1 + 1))) else (some false)) = some r := H
       have A7 := aM_ A70
       clear A70
       by_cases c8 : t184 = true
       ·subst c8
        have H1 : (laws_eqStepSS.l0 k1 l0 l1 (wrap64 (x5_1 + 1))) = some r := by rw [if_pos rfl] at H;exact H
        clear H
        have H := H1
        clear H1
        have H' := aM_ H
        clear H
        try go_wp2
        have n0 := aM_ (below_drew1 HB.out)
        clear HB
        have HB := n0
        clear n0
        have p182 : 0 ≤ (x5_1 : Int) := of_decide_eq_true (by first | (with_reducible assumption) | assumption)
        have q182 : x5_1 < (l0.length : Int) := of_decide_eq_true (by first | (with_reducible assumption) | assumption)
        obtain ⟨ad182,A182_0,c182_0,e182,hx182_0,hl182_0,hi182_0⟩ := at_L11 HR0.out x5_1 p182 q182
        have hw182_0 := hx182_0
        cases e182
        replace hx182_0 := cB_ HB.out hx182_0
        have HR182_0 := aM_ hi182_0
        have HC182_0 := aM_ hl182_0
        clear hi182_0 hl182_0
        replace p182 := eq_true p182
        replace q182 := eq_true q182
        have p183 : 0 ≤ (x5_1 : Int) := of_decide_eq_true (by first | (with_reducible assumption) | assumption)
        have q183 : x5_1 < (l1.length : Int) := of_decide_eq_true (by first | (with_reducible assumption) | assumption)
        obtain ⟨ad183,A183_0,c183_0,e183,hx183_0,hl183_0,hi183_0⟩ := at_L11 HR1.out x5_1 p183 q183
        have hw183_0 := hx183_0
        cases e183
        replace hx183_0 := cB_ HB.out hx183_0
        have HR183_0 := aM_ hi183_0
        have HC183_0 := aM_ hl183_0
        clear hi183_0 hl183_0
        replace p183 := eq_true p183
        replace q183 := eq_true q183
        refine start_ (n := 10) (S := fun w' => w'.cell? (ad182.add (x5_1).toNat) = some (.slice A182_0 (rd_L11 l0 x5_1).length c182_0) ∧ w'.cell? (ad183.add (x5_1).toNat) = some (.slice A183_0 (rd_L11 l1 x5_1).length c183_0)) (ds := []) (mk_ 10 0) (by kernel_rfl) rfl rfl ⟨(cB_ HB.out hw182_0 :),(cB_ HB.out hw183_0 :)⟩ (fun hHeld => ?_);refine with_tabW laws_eqStepSS.tab6 laws_eqStepSS.bits6 (fun HT_ HW_ => ?_)
        generalize wr.drew = w9 at HB HR182_0 HR183_0 hx182_0 hx183_0 hHeld ⊢
        refine pU_ 0 (some 17) (mk_ 10 1) ?_
        refine pU_ 1 (some 18) (mk_ 10 3) ?_
        refine pU_ 2 (some 19) (mk_ 10 7) ?_
        refine pU_ 4 (some 21) (mk_ 10 23) ?_
        refine pU_ 5 (some 22) (mk_ 10 55) ?_
        refine pU_ 6 (some 23) (mk_ 10 119) ?_
        refine tK2_ 3 (some 20) (mk_ 10 127) ?_
        refine tK2_ 7 (some 24) (mk_ 10 255) ?_
        refine oN_ 8 (some 25) (mk_ 10 511) (fun K hK => ?_)
        refine gO_ Try.func84 #[.slice A182_0 (rd_L11 l0 x5_1).length c182_0,.slice A183_0 (rd_L11 l1 x5_1).length c183_0] ?_
        with_reducible refine (laws_eqStepS.calls k1 _ _ (rd_L11 l0 x5_1) _ _ (rd_L11 l1 x5_1) true _ ?side1 ?side2 ?side3 ?side4 A7.out).mono ?_
        (case side1 => exact cS_ (Kd.C_below HR182_0.out HB.out))
        (case side2 => exact HC182_0.out)
        (case side3 => exact cS_ (Kd.C_below HR183_0.out HB.out))
        (case side4 => exact HC183_0.out)
        rintro e w10 ⟨rfl,hb⟩
        refine ⟨_,rfl,?_⟩
        have n0 := aM_ (sT_ HB.out hb)
        clear HB
        have HB := n0
        clear n0
        (try clear hb)
        (try clear hb2)
        (try clear hk)
        (try clear hi)
        refine hK.out _ _ ⟨(cB_ HB.out hw182_0 :),(cB_ HB.out hw183_0 :)⟩ (fun hHeld => ?_)
        clear hK K
        refine norm_ (a' := ?_) ?_ ?_
        rotate_left
        ·show Act.put _ (some 25) _ = _
         simp only [pt_,pn_,sI_,s0_,s1_,i64_w,i32_w]
         rfl
        refine pU_ 9 (some 26) (mk_ 10 1023) ?_
        refine done_ (done_of HT_.out (by kernel_rfl)) ?_
        try go_wp2
        go_roundg k1
        case measure => have := HK1.out;omega
        case rel => exact ⟨(wrap64 (x5_1 + 1)),(by first | rfl | (simp;done) | (simp [*];done)),H',⟨by have := HK1.out;omega⟩,⟨gW_ HB.out⟩⟩
       ·replace c8 := Bool.eq_false_iff.mpr c8
        subst c8
        have H1 : (some false) = some r := by rw [if_neg (show ¬ (false = true) by decide)] at H;exact H
        clear H
        have H := H1
        clear H1
        obtain rfl := Option.some.inj H
        try go_wp2
        have n0 := aM_ (below_drew1 HB.out)
        clear HB
        have HB := n0
        clear n0
        have p182 : 0 ≤ (x5_1 : Int) := of_decide_eq_true (by first | (with_reducible assumption) | assumption)
        have q182 : x5_1 < (l0.length : Int) := of_decide_eq_true (by first | (with_reducible assumption) | assumption)
        obtain ⟨ad182,A182_0,c182_0,e182,hx182_0,hl182_0,hi182_0⟩ := at_L11 HR0.out x5_1 p182 q182
        have hw182_0 := hx182_0
        cases e182
        replace hx182_0 := cB_ HB.out hx182_0
        have HR182_0 := aM_ hi182_0
        have HC182_0 := aM_ hl182_0
        clear hi182_0 hl182_0
        replace p182 := eq_true p182
        replace q182 := eq_true q182
        have p183 : 0 ≤ (x5_1 : Int) := of_decide_eq_true (by first | (with_reducible assumption) | assumption)
        have q183 : x5_1 < (l1.length : Int) := of_decide_eq_true (by first | (with_reducible assumption) | assumption)
        obtain ⟨ad183,A183_0,c183_0,e183,hx183_0,hl183_0,hi183_0⟩ := at_L11 HR1.out x5_1 p183 q183
        have hw183_0 := hx183_0
        cases e183
        replace hx183_0 := cB_ HB.out hx183_0
        have HR183_0 := aM_ hi183_0
        have HC183_0 := aM_ hl183_0
        clear hi183_0 hl183_0
        replace p183 := eq_true p183
        replace q183 := eq_true q183
        refine start_ (n := 10) (S := fun w' => w'.cell? (ad182.add (x5_1).toNat) = some (.slice A182_0 (rd_L11 l0 x5_1).length c182_0) ∧ w'.cell? (ad183.add (x5_1).toNat) = some (.slice A183_0 (rd_L11 l1 x5_1).length c183_0)) (ds := []) (mk_ 10 0) (by kernel_rfl) rfl rfl ⟨(cB_ HB.out hw182_0 :),(cB_ HB.out hw183_0 :)⟩ (fun hHeld => ?_);refine with_tabW laws_eqStepSS.tab6 laws_eqStepSS.bits6 (fun HT_ HW_ => ?_)
        generalize wr.drew = w11 at HB HR182_0 HR183_0 hx182_0 hx183_0 hHeld ⊢
        refine pU_ 0 (some 17) (mk_ 10 1) ?_
        refine pU_ 1 (some 18) (mk_ 10 3) ?_
        refine pU_ 2 (some 19) (mk_ 10 7) ?_
        refine pU_ 4 (some 21) (mk_ 10 23) ?_
        refine pU_ 5 (some 22) (mk_ 10 55) ?_
        refine pU_ 6 (some 23) (mk_ 10 119) ?_
        refine tK2_ 3 (some 20) (mk_ 10 127) ?_
        refine tK2_ 7 (some 24) (mk_ 10 255) ?_
        refine oN_ 8 (some 25) (mk_ 10 511) (fun K hK => ?_)
        refine gO_ Try.func84 #[.slice A182_0 (rd_L11 l0 x5_1).length c182_0,.slice A183_0 (rd_L11 l1 x5_1).length c183_0] ?_
        with_reducible refine (laws_eqStepS.calls k1 _ _ (rd_L11 l0 x5_1) _ _ (rd_L11 l1 x5_1) false _ ?side1 ?side2 ?side3 ?side4 A7.out).mono ?_
        (case side1 => exact cS_ (Kd.C_below HR182_0.out HB.out))
        (case side2 => exact HC182_0.out)
        (case side3 => exact cS_ (Kd.C_below HR183_0.out HB.out))
        (case side4 => exact HC183_0.out)
        rintro e w12 ⟨rfl,hb⟩
        refine ⟨_,rfl,?_⟩
        have n0 := aM_ (sT_ HB.out hb)
        clear HB
        have HB := n0
        clear n0
        (try clear hb)
        (try clear hb2)
        (try clear hk)
        (try clear hi)
        refine hK.out _ _ ⟨(cB_ HB.out hw182_0 :),(cB_ HB.out hw183_0 :)⟩ (fun hHeld => ?_)
        clear hK K
        refine norm_ (a' := ?_) ?_ ?_
        rotate_left
        ·show Act.put _ (some 25) _ = _
         simp only [pt_,pn_,sI_,s0_,s1_,i64_w,i32_w]
         rfl
        refine pU_ 9 (some 26) (mk_ 10 1023) ?_
        refine done_ (done_of HT_.out (by kernel_rfl)) ?_
        try go_wp2
        go_ret
        exact fI_ HB.out
      ·rw [if_neg c6] at H
       exact absurd H (by simp)
     ·rw [if_neg c5] at H
      exact absurd H (by simp)
    ·rw [if_neg c4] at H
     have c4b0 : decide (x5_1 < (l0.length : Int)) = false := decide_eq_false c4
     clear c4
     obtain rfl := Option.some.inj H
     go_wp2
     go_ret
     exact fI_ HB.out
 ·rw [if_neg c3] at H
  have c3b0 : ((l0.length : Int) == (l1.length : Int)) = false := beq_eq_false_iff_ne.mpr c3
  have c3b1 : ((l0.length : Int) != (l1.length : Int)) = true := bne_iff_ne.mpr c3
  have c3b2 : (l0.length == l1.length) = false := by first | simpa using c3 | (simp at c3 ⊢;omega)
  obtain rfl := Option.some.inj H
  go_enter Try.func29,Try.ntmps29
  go_wp2
  go_ret
  exact fI_ HB.out
end Go.Proofs.Ytobachfngmpeiaa.PFnExactChanSame
