/- A part of the proof that the law FnExactChanSame holds for every input: the words, functions and walks that its row needs, without a condition of their own. -/
import Derived.Test.YtobachfngmpeiaaZFnExactChanSamea2
import Derived.Test.YtobachfngmpeiaaZFnExactChanSamea11
import Derived.Test.YtobachfngmpeiaaZFnExactChanSamea12
import Derived.Test.YtobachfngmpeiaaZFnExactChanSames
namespace Go.Proofs.Ytobachfngmpeiaa.PFnExactChanSame
open Go.RowKit Go.Proofs.YtobachfngmpeiaaW.PrintWords Go.Proofs.YtobachfngmpeiaaW.PrintLast Go.Proofs.YtobachfngmpeiaaW.PrintMore
attribute [local go_sem] max2_int min2_int max_two min_two max_three min_three max_four min_four   -- for this text's walks alone
set_option linter.unusedVariables false
set_option linter.unusedSimpArgs false
def laws_szWriteSS.l0 : Nat → List (List (S238)) → Int → Int → Option (Int)
  | 0,_,_,_ => none
  | k + 1,x0,x1,x5 => if x5 < (x0.length : Int) then (if 0 ≤ x5 then ((laws_szWriteS.f k (rd_L22 x0 x5) x1).bind fun t288 => (if t288 < 0 then (some (-1)) else (laws_szWriteSS.l0 k x0 t288 (wrap64 (x5 + 1))))) else (none)) else (some x1)
def laws_szWriteSS.f (k : Nat) (l0 : List (List (S238))) (a1 : Int) : Option (Int) := if (wrap64 (a1 - (l0.length : Int))) < 0 then (some (-1)) else (laws_szWriteSS.l0 k l0 (wrap64 (a1 - (l0.length : Int))) 0)
set_option maxHeartbeats 8000000 in
set_option maxRecDepth 100000 in
theorem laws_szWriteSS.calls (k : Nat) (A0 : Option Addr) (c0 : Nat) (l0 : List (List (S238))) (a1 : Int) (r : Int) (w : World) (hr0 : Kd.C (Kd.slice 238 k238) w A0 l0.length l0) (hc0 : l0.length ≤ c0) (h : laws_szWriteSS.f k l0 a1 = some r) :
  Calls Try.prog 153 #[.slice A0 l0.length c0,.int .i64 a1] w fun e w' => e = .returned (.int .i64 r) ∧ Below w.heap.size w w' := by
 have HR0 := aM_ hr0
 have HC0 := aM_ hc0
 clear hr0 hc0
 have HB := aM_ (Below.refl w.heap.size w)
 have H : (if (wrap64 (a1 - (l0.length : Int))) < 0 then (some (-1)) else (laws_szWriteSS.l0 k l0 (wrap64 (a1 - (l0.length : Int))) 0)) = some r := h
 clear h
 by_cases c3 : (wrap64 (a1 - (l0.length : Int))) < 0
 ·rw [if_pos c3] at H
  have c3b0 : decide ((wrap64 (a1 - (l0.length : Int))) < 0) = true := decide_eq_true c3
  clear c3
  obtain rfl := Option.some.inj H
  go_enter Try.func153,Try.ntmps153
  go_wp2
  go_ret
  exact fI_ HB.out
 ·rw [if_neg c3] at H
  have c3b0 : decide ((wrap64 (a1 - (l0.length : Int))) < 0) = false := decide_eq_false c3
  clear c3
  have H' := aM_ H
  clear H
  go_enter Try.func153,Try.ntmps153
  go_wp2
  go_loopg [1,5] k (fun kq v1 v5 w' => ∃ (x1_1 : Int) (x5_1 : Int),v1 = .int .i64 x1_1 ∧ v5 = .int .i64 x5_1 ∧ Aside0 (laws_szWriteSS.l0 kq l0 x1_1 x5_1 = some r) ∧ Aside0 (kq ≤ k) ∧ Aside0 (Below w.heap.size w w'))
  case atStart => exact ⟨(wrap64 (a1 - (l0.length : Int))),(0),(by first | rfl | (simp;done) | (simp [*];done)),(by first | rfl | (simp;done) | (simp [*];done)),H',⟨Nat.le_refl _⟩,⟨gW_ HB.out⟩⟩
  case round =>
   clear H'
   try clear c1
   try clear p2
   try clear c3
   try clear c3b0
   obtain ⟨x1_1,x5_1,rfl,rfl,HA,HK1,HB⟩ := hrel
   cases gk with
   | zero => exact absurd HA.out (by simp [laws_szWriteSS.l0])
   | succ k1 =>
    have H := HA.out
    clear HA
    simp only [laws_szWriteSS.l0] at H
    by_cases c4 : x5_1 < (l0.length : Int)
    ·rw [if_pos c4] at H
     have c4b0 : decide (x5_1 < (l0.length : Int)) = true := decide_eq_true c4
     clear c4
     by_cases c5 : 0 ≤ x5_1
     ·rw [if_pos c5] at H
      have c5b0 : decide (0 ≤ x5_1) = true := decide_eq_true c5
      clear c5
      replace H := Option.bind_eq_some_iff.mp H
      obtain ⟨t288,A60,H⟩ := H
      replace H : (if t288 < 0 then (some (-1)) else (laws_szWriteSS.l0 k1 l0 t288 (wrap64 (x5_1 + 1)))) = some r := H
      have A6 := aM_ A60
      clear A60
      by_cases c7 : t288 < 0
      ·rw [if_pos c7] at H
       have c7b0 : decide (t288 < 0) = true := decide_eq_true c7
       clear c7
       obtain rfl := Option.some.inj H
       have p287 : 0 ≤ (x5_1 : Int) := of_decide_eq_true (by first | (with_reducible assumption) | assumption)
       have q287 : x5_1 < (l0.length : Int) := of_decide_eq_true (by first | (with_reducible assumption) | assumption)
       obtain ⟨ad287,A287_0,c287_0,e287,hx287_0,hl287_0,hi287_0⟩ := at_L22 HR0.out x5_1 p287 q287
       cases e287
       replace hx287_0 := cB_ HB.out hx287_0
       have HR287_0 := aM_ hi287_0
       have HC287_0 := aM_ hl287_0
       clear hi287_0 hl287_0
       replace p287 := eq_true p287
       replace q287 := eq_true q287
       go_wp2_with (first | ((with_reducible refine gate_callee (f := 175) rfl ?_);refine gL_ (some 23) Try.func175 #[.slice A287_0 (rd_L22 l0 x5_1).length c287_0,.int .i64 x1_1] ?_;(with_reducible refine (laws_szWriteS.calls k1 _ _ (rd_L22 l0 x5_1) x1_1 t288 _ ?side1 ?side2 A6.out).mono ?_);(case side1 => exact cS_ (Kd.C_below HR287_0.out HB.out));(case side2 => exact HC287_0.out);rintro e w8 ⟨rfl,hb⟩;refine ⟨_,rfl,?_⟩;have n0 := aM_ (sT_ HB.out hb);clear HB;have HB := n0;clear n0))
       go_ret
       exact fI_ HB.out
      ·rw [if_neg c7] at H
       have c7b0 : decide (t288 < 0) = false := decide_eq_false c7
       clear c7
       have H' := aM_ H
       clear H
       have p287 : 0 ≤ (x5_1 : Int) := of_decide_eq_true (by first | (with_reducible assumption) | assumption)
       have q287 : x5_1 < (l0.length : Int) := of_decide_eq_true (by first | (with_reducible assumption) | assumption)
       obtain ⟨ad287,A287_0,c287_0,e287,hx287_0,hl287_0,hi287_0⟩ := at_L22 HR0.out x5_1 p287 q287
       cases e287
       replace hx287_0 := cB_ HB.out hx287_0
       have HR287_0 := aM_ hi287_0
       have HC287_0 := aM_ hl287_0
       clear hi287_0 hl287_0
       replace p287 := eq_true p287
       replace q287 := eq_true q287
       go_wp2_with (first | ((with_reducible refine gate_callee (f := 175) rfl ?_);refine gL_ (some 23) Try.func175 #[.slice A287_0 (rd_L22 l0 x5_1).length c287_0,.int .i64 x1_1] ?_;(with_reducible refine (laws_szWriteS.calls k1 _ _ (rd_L22 l0 x5_1) x1_1 t288 _ ?side1 ?side2 A6.out).mono ?_);(case side1 => exact cS_ (Kd.C_below HR287_0.out HB.out));(case side2 => exact HC287_0.out);rintro e w9 ⟨rfl,hb⟩;refine ⟨_,rfl,?_⟩;have n0 := aM_ (sT_ HB.out hb);clear HB;have HB := n0;clear n0))
       go_roundg k1
       case measure => have := HK1.out;omega
       case rel => exact ⟨(t288),(wrap64 (x5_1 + 1)),(by first | rfl | (simp;done) | (simp [*];done)),(by first | rfl | (simp;done) | (simp [*];done)),H',⟨by have := HK1.out;omega⟩,⟨gW_ HB.out⟩⟩
     ·rw [if_neg c5] at H
      exact absurd H (by simp)
    ·rw [if_neg c4] at H
     have c4b0 : decide (x5_1 < (l0.length : Int)) = false := decide_eq_false c4
     clear c4
     obtain rfl := Option.some.inj H
     go_wp2
     go_ret
     exact fI_ HB.out
def laws_szMemory.f (k : Nat) (l0_0 : List (List (S238))) (a1 : Int) : Option (Int) := (laws_szWriteSS.f k l0_0 a1).bind fun t290 => (if t290 < 0 then (some (-1)) else (some t290))
set_option maxHeartbeats 8000000 in
set_option maxRecDepth 100000 in
theorem laws_szMemory.calls (k : Nat) (A0_0 : Option Addr) (c0_0 : Nat) (l0_0 : List (List (S238))) (a1 : Int) (r : Int) (w : World) (hr0_0 : Kd.C (Kd.slice 238 k238) w A0_0 l0_0.length l0_0) (hc0_0 : l0_0.length ≤ c0_0) (h : laws_szMemory.f k l0_0 a1 = some r) :
  Calls Try.prog 102 #[.agg #[.slice A0_0 l0_0.length c0_0],.int .i64 a1] w fun e w' => e = .returned (.int .i64 r) ∧ Below w.heap.size w w' := by
 have hu82 := Try.underlying82
 have HR0_0 := aM_ hr0_0
 have HC0_0 := aM_ hc0_0
 clear hr0_0 hc0_0
 have HB := aM_ (Below.refl w.heap.size w)
 have H : ((laws_szWriteSS.f k l0_0 a1).bind fun t290 => (if t290 < 0 then (some (-1)) else (some t290))) = some r := h
 clear h
 replace H := Option.bind_eq_some_iff.mp H
 obtain ⟨t290,A30,H⟩ := H
 replace H : (if t290 < 0 then (some (-1)) else (some t290)) = some r := H
 have A3 := aM_ A30
 clear A30
 by_cases c4 : t290 < 0
 ·rw [if_pos c4] at H
  have c4b0 : decide (t290 < 0) = true := decide_eq_true c4
  clear c4
  obtain rfl := Option.some.inj H
  go_enter Try.func102,Try.ntmps102
  go_wp2_with (first | ((with_reducible refine gate_dst (N := 2) rfl ?_);refine bX_ 2 (cs := #[.slice A0_0 l0_0.length c0_0]) (t := 82) ?_;intro gb289 hg w5 hbox hb;have n0 := aM_ (sT_ HB.out hb);have n1 := aM_ (hbox);have n2 := aM_ (sZ_ hg HB.out);have n3 := aM_ (sZ_ hg HB.out);clear HB;have HB := n0;have BK289 := n1;have GW289 := n2;have GE289 := n3;clear n0 n1 n2 n3;clear hb hbox hg;have hcz6_0 : w5.cell? ⟨gb289,0,none⟩ = some (.slice A0_0 l0_0.length c0_0) := (blk_cell BK289.out 0).trans rfl;have hfz6_0 := blk_frozen BK289.out 0) | ((with_reducible refine gate_callee (f := 153) rfl ?_);refine gL_ (some 8) Try.func153 #[.slice A0_0 l0_0.length c0_0,.int .i64 a1] ?_;(with_reducible refine (laws_szWriteSS.calls k _ _ l0_0 a1 t290 _ ?side1 ?side2 A3.out).mono ?_);(case side1 => exact cS_ (Kd.C_below HR0_0.out HB.out));(case side2 => exact HC0_0.out);rintro e w7 ⟨rfl,hb⟩;refine ⟨_,rfl,?_⟩;have n0 := aM_ (nB_ BK289.out hb);have n1 := aM_ (sT_ HB.out hb);clear BK289;clear HB;have BK289 := n0;have HB := n1;clear n0 n1))
  go_ret
  exact fI_ HB.out
 ·rw [if_neg c4] at H
  have c4b0 : decide (t290 < 0) = false := decide_eq_false c4
  clear c4
  obtain rfl := Option.some.inj H
  go_enter Try.func102,Try.ntmps102
  go_wp2_with (first | ((with_reducible refine gate_dst (N := 2) rfl ?_);refine bX_ 2 (cs := #[.slice A0_0 l0_0.length c0_0]) (t := 82) ?_;intro gb289 hg w8 hbox hb;have n0 := aM_ (sT_ HB.out hb);have n1 := aM_ (hbox);have n2 := aM_ (sZ_ hg HB.out);have n3 := aM_ (sZ_ hg HB.out);clear HB;have HB := n0;have BK289 := n1;have GW289 := n2;have GE289 := n3;clear n0 n1 n2 n3;clear hb hbox hg;have hcz9_0 : w8.cell? ⟨gb289,0,none⟩ = some (.slice A0_0 l0_0.length c0_0) := (blk_cell BK289.out 0).trans rfl;have hfz9_0 := blk_frozen BK289.out 0) | ((with_reducible refine gate_callee (f := 153) rfl ?_);refine gL_ (some 8) Try.func153 #[.slice A0_0 l0_0.length c0_0,.int .i64 a1] ?_;(with_reducible refine (laws_szWriteSS.calls k _ _ l0_0 a1 t290 _ ?side1 ?side2 A3.out).mono ?_);(case side1 => exact cS_ (Kd.C_below HR0_0.out HB.out));(case side2 => exact HC0_0.out);rintro e w10 ⟨rfl,hb⟩;refine ⟨_,rfl,?_⟩;have n0 := aM_ (nB_ BK289.out hb);have n1 := aM_ (sT_ HB.out hb);clear BK289;clear HB;have BK289 := n0;have HB := n1;clear n0 n1))
  go_ret
  exact fI_ HB.out
def laws_szMachine.f (k : Nat) (l0_0 : List (List (S177))) (l0_1 : List (S194)) (l0_2 : List (List (S238))) (l0_3 : List (S190)) (a1 : Int) : Option (Int) := (laws_szStepSS.f k l0_0 a1).bind fun t292 => (if t292 < 0 then (some (-1)) else ((laws_szCoreS.f k l0_1 t292).bind fun t293 => (if t293 < 0 then (some (-1)) else ((laws_szMemory.f k l0_2 t293).bind fun t294 => (if t294 < 0 then (some (-1)) else ((laws_szNoteS.f l0_3 t294).bind fun t295 => (if t295 < 0 then (some (-1)) else (some t295))))))))
set_option maxHeartbeats 8000000 in
set_option maxRecDepth 100000 in
theorem laws_szMachine.calls (k : Nat) (A0_0 : Option Addr) (c0_0 : Nat) (l0_0 : List (List (S177))) (A0_1 : Option Addr) (c0_1 : Nat) (l0_1 : List (S194)) (A0_2 : Option Addr) (c0_2 : Nat) (l0_2 : List (List (S238))) (A0_3 : Option Addr) (c0_3 : Nat) (l0_3 : List (S190)) (a1 : Int) (r : Int) (w : World) (hr0_0 : Kd.C (Kd.slice 177 k177) w A0_0 l0_0.length l0_0) (hc0_0 : l0_0.length ≤ c0_0) (hr0_1 : Kd.C k194 w A0_1 l0_1.length l0_1) (hc0_1 : l0_1.length ≤ c0_1) (hr0_2 : Kd.C (Kd.slice 238 k238) w A0_2 l0_2.length l0_2) (hc0_2 : l0_2.length ≤ c0_2) (hr0_3 : Kd.C k190 w A0_3 l0_3.length l0_3) (hc0_3 : l0_3.length ≤ c0_3) (h : laws_szMachine.f k l0_0 l0_1 l0_2 l0_3 a1 = some r) :
  Calls Try.prog 42 #[.agg #[.slice A0_0 l0_0.length c0_0,.slice A0_1 l0_1.length c0_1,.slice A0_2 l0_2.length c0_2,.slice A0_3 l0_3.length c0_3],.int .i64 a1] w fun e w' => e = .returned (.int .i64 r) ∧ Below w.heap.size w w' := by
 have hu84 := Try.underlying84
 have hu82 := Try.underlying82
 have HR0_0 := aM_ hr0_0
 have HC0_0 := aM_ hc0_0
 clear hr0_0 hc0_0
 have HR0_1 := aM_ hr0_1
 have HC0_1 := aM_ hc0_1
 clear hr0_1 hc0_1
 have HR0_2 := aM_ hr0_2
 have HC0_2 := aM_ hc0_2
 clear hr0_2 hc0_2
 have HR0_3 := aM_ hr0_3
 have HC0_3 := aM_ hc0_3
 clear hr0_3 hc0_3
 have HB := aM_ (Below.refl w.heap.size w)
 have H : ((laws_szStepSS.f k l0_0 a1).bind fun t292 => (if t292 < 0 then (some (-1)) else ((laws_szCoreS.f k l0_1 t292).bind fun t293 => (if t293 < 0 then (some (-1)) else ((laws_szMemory.f k l0_2 t293).bind fun t294 => (if t294 < 0 then (some (-1)) else ((laws_szNoteS.f l0_3 t294).bind fun t295 => (if t295 < 0 then (some (-1)) else (some t295))))))))) = some r := h
 clear h
 replace H := Option.bind_eq_some_iff.mp H
 obtain ⟨t292,A30,H⟩ := H
 replace H : (if t292 < 0 then (some (-1)) else ((laws_szCoreS.f k l0_1 t292).bind fun t293 => (if t293 < 0 then (some (-1)) else ((laws_szMemory.f k l0_2 t293).bind fun t294 => (if t294 < 0 then (some (-1)) else ((laws_szNoteS.f l0_3 t294).bind fun t295 => (if t295 < 0 then (some (-1)) else (some t295)))))))) = some r := H
 have A3 := aM_ A30
 clear A30
 by_cases c4 : t292 < 0
 ·rw [if_pos c4] at H
  have c4b0 : decide (t292 < 0) = true := decide_eq_true c4
  clear c4
  obtain rfl := Option.some.inj H
  go_enter Try.func42,Try.ntmps42
  go_wp2_with (first | ((with_reducible refine gate_dst (N := 2) rfl ?_);refine bX_ 2 (cs := #[.slice A0_0 l0_0.length c0_0,.slice A0_1 l0_1.length c0_1,.slice A0_2 l0_2.length c0_2,.slice A0_3 l0_3.length c0_3]) (t := 84) ?_;intro gb291 hg w5 hbox hb;have n0 := aM_ (sT_ HB.out hb);have n1 := aM_ (hbox);have n2 := aM_ (sZ_ hg HB.out);have n3 := aM_ (sZ_ hg HB.out);clear HB;have HB := n0;have BK291 := n1;have GW291 := n2;have GE291 := n3;clear n0 n1 n2 n3;clear hb hbox hg;obtain ⟨hcz6_0,hcz6_1,hcz6_2,hcz6_3,hfz6_0,hfz6_1,hfz6_2,hfz6_3⟩ := bR4_ BK291.out) | ((with_reducible refine gate_callee (f := 24) rfl ?_);refine gL_ (some 8) Try.func24 #[.slice A0_0 l0_0.length c0_0,.int .i64 a1] ?_;(with_reducible refine (laws_szStepSS.calls k _ _ l0_0 a1 t292 _ ?side1 ?side2 A3.out).mono ?_);(case side1 => exact cS_ (Kd.C_below HR0_0.out HB.out));(case side2 => exact HC0_0.out);rintro e w' ⟨rfl,⟨nd,rfl⟩⟩;refine ⟨_,rfl,?_⟩))
  go_ret
  exact fI_ HB.out
 ·rw [if_neg c4] at H
  have c4b0 : decide (t292 < 0) = false := decide_eq_false c4
  clear c4
  replace H := Option.bind_eq_some_iff.mp H
  obtain ⟨t293,A70,H⟩ := H
  replace H : (if t293 < 0 then (some (-1)) else ((laws_szMemory.f k l0_2 t293).bind fun t294 => (if t294 < 0 then (some (-1)) else ((laws_szNoteS.f l0_3 t294).bind fun t295 => (if t295 < 0 then (some (-1)) else (some t295)))))) = some r := H
  have A7 := aM_ A70
  clear A70
  by_cases c8 : t293 < 0
  ·rw [if_pos c8] at H
   have c8b0 : decide (t293 < 0) = true := decide_eq_true c8
   clear c8
   obtain rfl := Option.some.inj H
   go_enter Try.func42,Try.ntmps42
   go_wp2_with (first | ((with_reducible refine gate_dst (N := 2) rfl ?_);refine bX_ 2 (cs := #[.slice A0_0 l0_0.length c0_0,.slice A0_1 l0_1.length c0_1,.slice A0_2 l0_2.length c0_2,.slice A0_3 l0_3.length c0_3]) (t := 84) ?_;intro gb291 hg w9 hbox hb;have n0 := aM_ (sT_ HB.out hb);have n1 := aM_ (hbox);have n2 := aM_ (sZ_ hg HB.out);have n3 := aM_ (sZ_ hg HB.out);clear HB;have HB := n0;have BK291 := n1;have GW291 := n2;have GE291 := n3;clear n0 n1 n2 n3;clear hb hbox hg;obtain ⟨hcz10_0,hcz10_1,hcz10_2,hcz10_3,hfz10_0,hfz10_1,hfz10_2,hfz10_3⟩ := bR4_ BK291.out) | ((with_reducible refine gate_callee (f := 24) rfl ?_);refine gL_ (some 8) Try.func24 #[.slice A0_0 l0_0.length c0_0,.int .i64 a1] ?_;(with_reducible refine (laws_szStepSS.calls k _ _ l0_0 a1 t292 _ ?side1 ?side2 A3.out).mono ?_);(case side1 => exact cS_ (Kd.C_below HR0_0.out HB.out));(case side2 => exact HC0_0.out);rintro e w' ⟨rfl,⟨nd,rfl⟩⟩;refine ⟨_,rfl,?_⟩) | ((with_reducible refine gate_callee (f := 101) rfl ?_);refine gL_ (some 14) Try.func101 #[.slice A0_1 l0_1.length c0_1,.int .i64 t292] ?_;(with_reducible refine (laws_szCoreS.calls k _ _ l0_1 t292 t293 _ ?side1 ?side2 A7.out).mono ?_);(case side1 => exact cS_ (Kd.C_below HR0_1.out (gB_ HB.out)));(case side2 => exact HC0_1.out);rintro e w11 ⟨rfl,hb⟩;refine ⟨_,rfl,?_⟩;have n0 := aM_ (nB_ BK291.out hb);have n1 := aM_ (sT_ HB.out hb);clear BK291;clear HB;have BK291 := n0;have HB := n1;clear n0 n1))
   go_ret
   exact fI_ HB.out
  ·rw [if_neg c8] at H
   have c8b0 : decide (t293 < 0) = false := decide_eq_false c8
   clear c8
   replace H := Option.bind_eq_some_iff.mp H
   obtain ⟨t294,A120,H⟩ := H
   replace H : (if t294 < 0 then (some (-1)) else ((laws_szNoteS.f l0_3 t294).bind fun t295 => (if t295 < 0 then (some (-1)) else (some t295)))) = some r := H
   have A12 := aM_ A120
   clear A120
   by_cases c13 : t294 < 0
   ·rw [if_pos c13] at H
    have c13b0 : decide (t294 < 0) = true := decide_eq_true c13
    clear c13
    obtain rfl := Option.some.inj H
    go_enter Try.func42,Try.ntmps42
    go_wp2_with (first | ((with_reducible refine gate_dst (N := 2) rfl ?_);refine bX_ 2 (cs := #[.slice A0_0 l0_0.length c0_0,.slice A0_1 l0_1.length c0_1,.slice A0_2 l0_2.length c0_2,.slice A0_3 l0_3.length c0_3]) (t := 84) ?_;intro gb291 hg w14 hbox hb;have n0 := aM_ (sT_ HB.out hb);have n1 := aM_ (hbox);have n2 := aM_ (sZ_ hg HB.out);have n3 := aM_ (sZ_ hg HB.out);clear HB;have HB := n0;have BK291 := n1;have GW291 := n2;have GE291 := n3;clear n0 n1 n2 n3;clear hb hbox hg;obtain ⟨hcz15_0,hcz15_1,hcz15_2,hcz15_3,hfz15_0,hfz15_1,hfz15_2,hfz15_3⟩ := bR4_ BK291.out) | ((with_reducible refine gate_callee (f := 24) rfl ?_);refine gL_ (some 8) Try.func24 #[.slice A0_0 l0_0.length c0_0,.int .i64 a1] ?_;(with_reducible refine (laws_szStepSS.calls k _ _ l0_0 a1 t292 _ ?side1 ?side2 A3.out).mono ?_);(case side1 => exact cS_ (Kd.C_below HR0_0.out HB.out));(case side2 => exact HC0_0.out);rintro e w' ⟨rfl,⟨nd,rfl⟩⟩;refine ⟨_,rfl,?_⟩) | ((with_reducible refine gate_callee (f := 101) rfl ?_);refine gL_ (some 14) Try.func101 #[.slice A0_1 l0_1.length c0_1,.int .i64 t292] ?_;(with_reducible refine (laws_szCoreS.calls k _ _ l0_1 t292 t293 _ ?side1 ?side2 A7.out).mono ?_);(case side1 => exact cS_ (Kd.C_below HR0_1.out (gB_ HB.out)));(case side2 => exact HC0_1.out);rintro e w16 ⟨rfl,hb⟩;refine ⟨_,rfl,?_⟩;have n0 := aM_ (nB_ BK291.out hb);have n1 := aM_ (sT_ HB.out hb);clear BK291;clear HB;have BK291 := n0;have HB := n1;clear n0 n1;obtain ⟨hcz17_0,hcz17_1,hcz17_2,hcz17_3,hfz17_0,hfz17_1,hfz17_2,hfz17_3⟩ := bR4_ BK291.out) | ((with_reducible refine gate_callee (f := 102) rfl ?_);refine gL_ (some 20) Try.func102 #[.agg #[.slice A0_2 l0_2.length c0_2],.int .i64 t293] ?_;(with_reducible refine (laws_szMemory.calls k _ _ l0_2 t293 t294 _ ?side1 ?side2 A12.out).mono ?_);(case side1 => exact cS_ (Kd.C_below HR0_2.out HB.out));(case side2 => exact HC0_2.out);rintro e w18 ⟨rfl,hb⟩;refine ⟨_,rfl,?_⟩;have n0 := aM_ (nB_ BK291.out hb);have n1 := aM_ (sT_ HB.out hb);clear BK291;clear HB;have BK291 := n0;have HB := n1;clear n0 n1))
    go_ret
    exact fI_ HB.out
   ·rw [if_neg c13] at H
    have c13b0 : decide (t294 < 0) = false := decide_eq_false c13
    clear c13
    replace H := Option.bind_eq_some_iff.mp H
    obtain ⟨t295,A190,H⟩ := H
    replace H : (if t295 < 0 then (some (-1)) else (some t295)) = some r := H
    have A19 := aM_ A190
    clear A190
    by_cases c20 : t295 < 0
    ·rw [if_pos c20] at H
     have c20b0 : decide (t295 < 0) = true := decide_eq_true c20
     clear c20
     obtain rfl := Option.some.inj H
     go_enter Try.func42,Try.ntmps42
     go_wp2_with (first | ((with_reducible refine gate_dst (N := 2) rfl ?_);refine bX_ 2 (cs := #[.slice A0_0 l0_0.length c0_0,.slice A0_1 l0_1.length c0_1,.slice A0_2 l0_2.length c0_2,.slice A0_3 l0_3.length c0_3]) (t := 84) ?_;intro gb291 hg w21 hbox hb;have n0 := aM_ (sT_ HB.out hb);have n1 := aM_ (hbox);have n2 := aM_ (sZ_ hg HB.out);have n3 := aM_ (sZ_ hg HB.out);clear HB;have HB := n0;have BK291 := n1;have GW291 := n2;have GE291 := n3;clear n0 n1 n2 n3;clear hb hbox hg;obtain ⟨hcz22_0,hcz22_1,hcz22_2,hcz22_3,hfz22_0,hfz22_1,hfz22_2,hfz22_3⟩ := bR4_ BK291.out) | ((with_reducible refine gate_callee (f := 24) rfl ?_);refine gL_ (some 8) Try.func24 #[.slice A0_0 l0_0.length c0_0,.int .i64 a1] ?_;(with_reducible refine (laws_szStepSS.calls k _ _ l0_0 a1 t292 _ ?side1 ?side2 A3.out).mono ?_);(case side1 => exact cS_ (Kd.C_below HR0_0.out HB.out));(case side2 => exact HC0_0.out);rintro e w' ⟨rfl,⟨nd,rfl⟩⟩;refine ⟨_,rfl,?_⟩) | ((with_reducible refine gate_callee (f := 101) rfl ?_);refine gL_ (some 14) Try.func101 #[.slice A0_1 l0_1.length c0_1,.int .i64 t292] ?_;(with_reducible refine (laws_szCoreS.calls k _ _ l0_1 t292 t293 _ ?side1 ?side2 A7.out).mono ?_);(case side1 => exact cS_ (Kd.C_below HR0_1.out (gB_ HB.out)));(case side2 => exact HC0_1.out);rintro e w23 ⟨rfl,hb⟩;refine ⟨_,rfl,?_⟩;have n0 := aM_ (nB_ BK291.out hb);have n1 := aM_ (sT_ HB.out hb);clear BK291;clear HB;have BK291 := n0;have HB := n1;clear n0 n1;obtain ⟨hcz24_0,hcz24_1,hcz24_2,hcz24_3,hfz24_0,hfz24_1,hfz24_2,hfz24_3⟩ := bR4_ BK291.out) | ((with_reducible refine gate_callee (f := 102) rfl ?_);refine gL_ (some 20) Try.func102 #[.agg #[.slice A0_2 l0_2.length c0_2],.int .i64 t293] ?_;(with_reducible refine (laws_szMemory.calls k _ _ l0_2 t293 t294 _ ?side1 ?side2 A12.out).mono ?_);(case side1 => exact cS_ (Kd.C_below HR0_2.out HB.out));(case side2 => exact HC0_2.out);rintro e w25 ⟨rfl,hb⟩;refine ⟨_,rfl,?_⟩;have n0 := aM_ (nB_ BK291.out hb);have n1 := aM_ (sT_ HB.out hb);clear BK291;clear HB;have BK291 := n0;have HB := n1;clear n0 n1;obtain ⟨hcz26_0,hcz26_1,hcz26_2,hcz26_3,hfz26_0,hfz26_1,hfz26_2,hfz26_3⟩ := bR4_ BK291.out) | ((with_reducible refine gate_callee (f := 93) rfl ?_);refine gL_ (some 26) Try.func93 #[.slice A0_3 l0_3.length c0_3,.int .i64 t294] ?_;(with_reducible refine (laws_szNoteS.calls _ _ l0_3 t294 t295 _ ?side1 ?side2 A19.out).mono ?_);(case side1 => exact cS_ (Kd.C_below HR0_3.out HB.out));(case side2 => exact HC0_3.out);rintro e w' ⟨rfl,⟨nd,rfl⟩⟩;refine ⟨_,rfl,?_⟩))
     go_ret
     exact fI_ HB.out
    ·rw [if_neg c20] at H
     have c20b0 : decide (t295 < 0) = false := decide_eq_false c20
     clear c20
     obtain rfl := Option.some.inj H
     go_enter Try.func42,Try.ntmps42
     go_wp2_with (first | ((with_reducible refine gate_dst (N := 2) rfl ?_);refine bX_ 2 (cs := #[.slice A0_0 l0_0.length c0_0,.slice A0_1 l0_1.length c0_1,.slice A0_2 l0_2.length c0_2,.slice A0_3 l0_3.length c0_3]) (t := 84) ?_;intro gb291 hg w27 hbox hb;have n0 := aM_ (sT_ HB.out hb);have n1 := aM_ (hbox);have n2 := aM_ (sZ_ hg HB.out);have n3 := aM_ (sZ_ hg HB.out);clear HB;have HB := n0;have BK291 := n1;have GW291 := n2;have GE291 := n3;clear n0 n1 n2 n3;clear hb hbox hg;obtain ⟨hcz28_0,hcz28_1,hcz28_2,hcz28_3,hfz28_0,hfz28_1,hfz28_2,hfz28_3⟩ := bR4_ BK291.out) | ((with_reducible refine gate_callee (f := 24) rfl ?_);refine gL_ (some 8) Try.func24 #[.slice A0_0 l0_0.length c0_0,.int .i64 a1] ?_;(with_reducible refine (laws_szStepSS.calls k _ _ l0_0 a1 t292 _ ?side1 ?side2 A3.out).mono ?_);(case side1 => exact cS_ (Kd.C_below HR0_0.out HB.out));(case side2 => exact HC0_0.out);rintro e w' ⟨rfl,⟨nd,rfl⟩⟩;refine ⟨_,rfl,?_⟩) | ((with_reducible refine gate_callee (f := 101) rfl ?_);refine gL_ (some 14) Try.func101 #[.slice A0_1 l0_1.length c0_1,.int .i64 t292] ?_;(with_reducible refine (laws_szCoreS.calls k _ _ l0_1 t292 t293 _ ?side1 ?side2 A7.out).mono ?_);(case side1 => exact cS_ (Kd.C_below HR0_1.out (gB_ HB.out)));(case side2 => exact HC0_1.out);rintro e w29 ⟨rfl,hb⟩;refine ⟨_,rfl,?_⟩;have n0 := aM_ (nB_ BK291.out hb);have n1 := aM_ (sT_ HB.out hb);clear BK291;clear HB;have BK291 := n0;have HB := n1;clear n0 n1;obtain ⟨hcz30_0,hcz30_1,hcz30_2,hcz30_3,hfz30_0,hfz30_1,hfz30_2,hfz30_3⟩ := bR4_ BK291.out) | ((with_reducible refine gate_callee (f := 102) rfl ?_);refine gL_ (some 20) Try.func102 #[.agg #[.slice A0_2 l0_2.length c0_2],.int .i64 t293] ?_;(with_reducible refine (laws_szMemory.calls k _ _ l0_2 t293 t294 _ ?side1 ?side2 A12.out).mono ?_);(case side1 => exact cS_ (Kd.C_below HR0_2.out HB.out));(case side2 => exact HC0_2.out);rintro e w31 ⟨rfl,hb⟩;refine ⟨_,rfl,?_⟩;have n0 := aM_ (nB_ BK291.out hb);have n1 := aM_ (sT_ HB.out hb);clear BK291;clear HB;have BK291 := n0;have HB := n1;clear n0 n1;obtain ⟨hcz32_0,hcz32_1,hcz32_2,hcz32_3,hfz32_0,hfz32_1,hfz32_2,hfz32_3⟩ := bR4_ BK291.out) | ((with_reducible refine gate_callee (f := 93) rfl ?_);refine gL_ (some 26) Try.func93 #[.slice A0_3 l0_3.length c0_3,.int .i64 t294] ?_;(with_reducible refine (laws_szNoteS.calls _ _ l0_3 t294 t295 _ ?side1 ?side2 A19.out).mono ?_);(case side1 => exact cS_ (Kd.C_below HR0_3.out HB.out));(case side2 => exact HC0_3.out);rintro e w' ⟨rfl,⟨nd,rfl⟩⟩;refine ⟨_,rfl,?_⟩))
     go_ret
     exact fI_ HB.out
def spec_l1In.f (a0 : Int) (a1 : Int) (a2 : Int) : Option (Bool) := if a0 ≥ a1 then (some (decide (a0 ≤ a2))) else (some false)
set_option maxHeartbeats 8000000 in
set_option maxRecDepth 100000 in
theorem spec_l1In.calls (a0 : Int) (a1 : Int) (a2 : Int) (r : Bool) (w : World) (h : spec_l1In.f a0 a1 a2 = some r) :
  Calls Try.prog 111 #[.int .i64 a0,.int .i64 a1,.int .i64 a2] w fun e w' => e = .returned (.bool r) ∧ Drawn0 w w' := by
 have H : (if a0 ≥ a1 then (some (decide (a0 ≤ a2))) else (some false)) = some r := h
 clear h
 by_cases c4 : a0 ≥ a1
 ·rw [if_pos c4] at H
  have c4b0 : decide (a1 ≤ a0) = true := decide_eq_true c4
  clear c4
  obtain rfl := Option.some.inj H
  go_enter Try.func111,Try.ntmps111
  go_wp2
  go_ret
  exact ⟨by first | rfl | (simp;done) | (simp [*];done),by repeat (first | exact Drawn0.refl _ | apply Drawn0.step)⟩
 ·rw [if_neg c4] at H
  have c4b0 : decide (a1 ≤ a0) = false := decide_eq_false c4
  clear c4
  obtain rfl := Option.some.inj H
  go_enter Try.func111,Try.ntmps111
  go_wp2
  go_ret
  exact ⟨by first | rfl | (simp;done) | (simp [*];done),by repeat (first | exact Drawn0.refl _ | apply Drawn0.step)⟩
def spec_l9Base.l0 : Nat → List Int → Int → Int → Int → Option (Int)
  | 0,_,_,_,_ => none
  | k + 1,x0,x1,x5,x6 => if x6 < x1 then (if 0 ≤ x6 then (if x6 < (x0.length : Int) then (spec_l9Base.l0 k x0 x1 (wrap64 ((wrap64 (x5 + (rd x0 x6))) + 4)) (wrap64 (x6 + 1))) else (none)) else (none)) else (some x5)
def spec_l9Base.f (k : Nat) (l0 : List Int) (a1 : Int) : Option (Int) := spec_l9Base.l0 k l0 a1 0 0
set_option maxHeartbeats 8000000 in
set_option maxRecDepth 100000 in
theorem spec_l9Base.calls (k : Nat) (A0 : Option Addr) (c0 : Nat) (l0 : List Int) (a1 : Int) (r : Int) (w : World) (hr0 : Kd.C (Kd.int .i64) w A0 l0.length l0) (hc0 : l0.length ≤ c0) (h : spec_l9Base.f k l0 a1 = some r) :
  Calls Try.prog 112 #[.slice A0 l0.length c0,.int .i64 a1] w fun e w' => e = .returned (.int .i64 r) ∧ Drawn0 w w' := by
 have HR0 := aM_ hr0
 have HC0 := aM_ hc0
 clear hr0 hc0
 have H : (spec_l9Base.l0 k l0 a1 0 0) = some r := h
 clear h
 have H' := aM_ H
 clear H
 go_enter Try.func112,Try.ntmps112
 go_wp2
 go_loopg [5,6] k (fun kq v5 v6 w' => ∃ (x5_1 : Int) (x6_1 : Int),v5 = .int .i64 x5_1 ∧ v6 = .int .i64 x6_1 ∧ Aside0 (spec_l9Base.l0 kq l0 a1 x5_1 x6_1 = some r) ∧ Aside0 (kq ≤ k) ∧ Drawn0 w w')
 case atStart => exact ⟨(0),(0),(by first | rfl | (simp;done) | (simp [*];done)),(by first | rfl | (simp;done) | (simp [*];done)),H',⟨Nat.le_refl _⟩,by repeat (first | exact Drawn0.refl _ | apply Drawn0.step)⟩
 case round =>
  clear H'
  try clear c1
  try clear p2
  obtain ⟨x5_1,x6_1,rfl,rfl,HA,HK1,⟨m1,rfl⟩⟩ := hrel
  cases gk with
  | zero => exact absurd HA.out (by simp [spec_l9Base.l0])
  | succ k1 =>
   have H := HA.out
   clear HA
   simp only [spec_l9Base.l0] at H
   by_cases c3 : x6_1 < a1
   ·rw [if_pos c3] at H
    have c3b0 : decide (x6_1 < a1) = true := decide_eq_true c3
    clear c3
    by_cases c4 : 0 ≤ x6_1
    ·rw [if_pos c4] at H
     have c4b0 : decide (0 ≤ x6_1) = true := decide_eq_true c4
     clear c4
     by_cases c5 : x6_1 < (l0.length : Int)
     ·rw [if_pos c5] at H
      have c5b0 : decide (x6_1 < (l0.length : Int)) = true := decide_eq_true c5
      clear c5
      have H' := aM_ H
      clear H
      have p296 : 0 ≤ (x6_1 : Int) := of_decide_eq_true (by first | (with_reducible assumption) | assumption)
      have q296 : x6_1 < (l0.length : Int) := of_decide_eq_true (by first | (with_reducible assumption) | assumption)
      obtain ⟨ad296,e296,hx296_0⟩ := Kd.at_int HR0.out x6_1 p296 q296
      cases e296
      replace p296 := eq_true p296
      replace q296 := eq_true q296
      go_wp2
      go_roundg k1
      case measure => have := HK1.out;omega
      case rel => exact ⟨(wrap64 ((wrap64 (x5_1 + (rd l0 x6_1))) + 4)),(wrap64 (x6_1 + 1)),(by first | rfl | (simp;done) | (simp [*];done)),(by first | rfl | (simp;done) | (simp [*];done)),H',⟨by have := HK1.out;omega⟩,by repeat (first | exact Drawn0.refl _ | apply Drawn0.step)⟩
     ·rw [if_neg c5] at H
      exact absurd H (by simp)
    ·rw [if_neg c4] at H
     exact absurd H (by simp)
   ·rw [if_neg c3] at H
    have c3b0 : decide (x6_1 < a1) = false := decide_eq_false c3
    clear c3
    obtain rfl := Option.some.inj H
    go_wp2
    go_ret
    exact ⟨by first | rfl | (simp;done) | (simp [*];done),by repeat (first | exact Drawn0.refl _ | apply Drawn0.step)⟩
def spec_l9Right.l0 : Nat → List Int → Int → Option (Bool)
  | 0,_,_ => none
  | k + 1,x0,x3 => if x3 < (x0.length : Int) then (if 0 ≤ x3 then ((spec_l1In.f (rd x0 x3) 1 4).bind fun t299 => (if t299 = true then (spec_l9Right.l0 k x0 (wrap64 (x3 + 1))) else (some false))) else (none)) else (if (x0.length : Int) ≤ 24 then ((spec_l9Base.f k x0 (x0.length : Int)).bind fun t297 => (some (decide (t297 ≤ 24)))) else (some false))
def spec_l9Right.f (k : Nat) (l0 : List Int) : Option (Bool) := spec_l9Right.l0 k l0 0
set_option maxHeartbeats 8000000 in
set_option maxRecDepth 100000 in
theorem spec_l9Right.calls (k : Nat) (A0 : Option Addr) (c0 : Nat) (l0 : List Int) (r : Bool) (w : World) (hr0 : Kd.C (Kd.int .i64) w A0 l0.length l0) (hc0 : l0.length ≤ c0) (h : spec_l9Right.f k l0 = some r) :
  Calls Try.prog 110 #[.slice A0 l0.length c0] w fun e w' => e = .returned (.bool r) ∧ Drawn0 w w' := by
 have HR0 := aM_ hr0
 have HC0 := aM_ hc0
 clear hr0 hc0
 have H : (spec_l9Right.l0 k l0 0) = some r := h
 clear h
 have H' := aM_ H
 clear H
 go_enter Try.func110,Try.ntmps110
 go_wp2
 go_loopg [3] k (fun kq v3 w' => ∃ (x3_1 : Int),v3 = .int .i64 x3_1 ∧ Aside0 (spec_l9Right.l0 kq l0 x3_1 = some r) ∧ Aside0 (kq ≤ k) ∧ Drawn0 w w')
 case atStart => exact ⟨(0),(by first | rfl | (simp;done) | (simp [*];done)),H',⟨Nat.le_refl _⟩,by repeat (first | exact Drawn0.refl _ | apply Drawn0.step)⟩
 case round =>
  clear H'
  try clear c1
  obtain ⟨x3_1,rfl,HA,HK1,⟨m1,rfl⟩⟩ := hrel
  cases gk with
  | zero => exact absurd HA.out (by simp [spec_l9Right.l0])
  | succ k1 =>
   have H := HA.out
   clear HA
   simp only [spec_l9Right.l0] at H
   by_cases c2 : x3_1 < (l0.length : Int)
   ·rw [if_pos c2] at H
    have c2b0 : decide (x3_1 < (l0.length : Int)) = true := decide_eq_true c2
    clear c2
    by_cases c3 : 0 ≤ x3_1
    ·rw [if_pos c3] at H
     have c3b0 : decide (0 ≤ x3_1) = true := decide_eq_true c3
     clear c3
     replace H := Option.bind_eq_some_iff.mp H
     obtain ⟨t299,A40,H⟩ := H
     replace H : (if t299 = true then (spec_l9Right.l0 k1 l0 (wrap64 (x3_1 + 1))) else (some false)) = some r := H
     have A4 := aM_ A40
     clear A40
     by_cases c5 : t299 = true
     ·subst c5
      have H1 : (spec_l9Right.l0 k1 l0 (wrap64 (x3_1 + 1))) = some r := by rw [if_pos rfl] at H;exact H
      clear H
      have H := H1
      clear H1
      have H' := aM_ H
      clear H
      have p298 : 0 ≤ (x3_1 : Int) := of_decide_eq_true (by first | (with_reducible assumption) | assumption)
      have q298 : x3_1 < (l0.length : Int) := of_decide_eq_true (by first | (with_reducible assumption) | assumption)
      obtain ⟨ad298,e298,hx298_0⟩ := Kd.at_int HR0.out x3_1 p298 q298
      cases e298
      replace p298 := eq_true p298
      replace q298 := eq_true q298
      go_wp2_with (first | ((with_reducible refine gate_callee (f := 111) rfl ?_);refine gL_ (some 14) Try.func111 #[.int .i64 (rd l0 x3_1),.int .i64 1,.int .i64 4] ?_;(with_reducible refine (spec_l1In.calls (rd l0 x3_1) 1 4 true _ A4.out).mono ?_);rintro e w' ⟨rfl,⟨nd,rfl⟩⟩;refine ⟨_,rfl,?_⟩))
      go_roundg k1
      case measure => have := HK1.out;omega
      case rel => exact ⟨(wrap64 (x3_1 + 1)),(by first | rfl | (simp;done) | (simp [*];done)),H',⟨by have := HK1.out;omega⟩,by repeat (first | exact Drawn0.refl _ | apply Drawn0.step)⟩
     ·replace c5 := Bool.eq_false_iff.mpr c5
      subst c5
      have H1 : (some false) = some r := by rw [if_neg (show ¬ (false = true) by decide)] at H;exact H
      clear H
      have H := H1
      clear H1
      obtain rfl := Option.some.inj H
      have p298 : 0 ≤ (x3_1 : Int) := of_decide_eq_true (by first | (with_reducible assumption) | assumption)
      have q298 : x3_1 < (l0.length : Int) := of_decide_eq_true (by first | (with_reducible assumption) | assumption)
      obtain ⟨ad298,e298,hx298_0⟩ := Kd.at_int HR0.out x3_1 p298 q298
      cases e298
      replace p298 := eq_true p298
      replace q298 := eq_true q298
      go_wp2_with (first | ((with_reducible refine gate_callee (f := 111) rfl ?_);refine gL_ (some 14) Try.func111 #[.int .i64 (rd l0 x3_1),.int .i64 1,.int .i64 4] ?_;(with_reducible refine (spec_l1In.calls (rd l0 x3_1) 1 4 false _ A4.out).mono ?_);rintro e w' ⟨rfl,⟨nd,rfl⟩⟩;refine ⟨_,rfl,?_⟩))
      go_ret
      exact ⟨by first | rfl | (simp;done) | (simp [*];done),by repeat (first | exact Drawn0.refl _ | apply Drawn0.step)⟩
    ·rw [if_neg c3] at H
     exact absurd H (by simp)
   ·rw [if_neg c2] at H
    have c2b0 : decide (x3_1 < (l0.length : Int)) = false := decide_eq_false c2
    clear c2
    by_cases c6 : (l0.length : Int) ≤ 24
    ·rw [if_pos c6] at H
     have c6b0 : decide ((l0.length : Int) ≤ 24) = true := decide_eq_true c6
     have c6b1 : decide (l0.length ≤ 24) = true := decide_eq_true (by omega)
     clear c6
     replace H := Option.bind_eq_some_iff.mp H
     obtain ⟨t297,A70,H⟩ := H
     replace H : (some (decide (t297 ≤ 24))) = some r := H
     have A7 := aM_ A70
     clear A70
     obtain rfl := Option.some.inj H
     go_wp2_with (first | (go_at_call 112;(with_reducible refine (spec_l9Base.calls k1 _ _ l0 (l0.length : Int) t297 _ ?side1 ?side2 A7.out).mono ?_);(case side1 => exact cS_ HR0.out);(case side2 => exact HC0.out);rintro e w' ⟨rfl,⟨nd,rfl⟩⟩))
     go_ret
     exact ⟨by first | rfl | (simp;done) | (simp [*];done),by repeat (first | exact Drawn0.refl _ | apply Drawn0.step)⟩
    ·rw [if_neg c6] at H
     have c6b0 : decide ((l0.length : Int) ≤ 24) = false := decide_eq_false c6
     have c6b1 : decide (l0.length ≤ 24) = false := decide_eq_false (by omega)
     clear c6
     obtain rfl := Option.some.inj H
     go_wp2
     go_ret
     exact ⟨by first | rfl | (simp;done) | (simp [*];done),by repeat (first | exact Drawn0.refl _ | apply Drawn0.step)⟩
def spec_Base.f (k : Nat) (l0 : List Int) (a1 : Int) : Option (Int) := (spec_l9Right.f k l0).bind fun t300 => (if t300 = true then ((spec_l1In.f a1 0 (wrap64 ((l0.length : Int) - 1))).bind fun t301 => (if t301 = true then ((spec_l9Base.f k l0 a1).bind fun t302 => (some t302)) else (some (-1)))) else (some (-1)))
set_option maxHeartbeats 8000000 in
set_option maxRecDepth 100000 in
theorem spec_Base.calls (k : Nat) (A0 : Option Addr) (c0 : Nat) (l0 : List Int) (a1 : Int) (r : Int) (w : World) (hr0 : Kd.C (Kd.int .i64) w A0 l0.length l0) (hc0 : l0.length ≤ c0) (h : spec_Base.f k l0 a1 = some r) :
  Calls Try.prog 48 #[.slice A0 l0.length c0,.int .i64 a1] w fun e w' => e = .returned (.int .i64 r) ∧ Drawn0 w w' := by
 have HR0 := aM_ hr0
 have HC0 := aM_ hc0
 clear hr0 hc0
 have H : ((spec_l9Right.f k l0).bind fun t300 => (if t300 = true then ((spec_l1In.f a1 0 (wrap64 ((l0.length : Int) - 1))).bind fun t301 => (if t301 = true then ((spec_l9Base.f k l0 a1).bind fun t302 => (some t302)) else (some (-1)))) else (some (-1)))) = some r := h
 clear h
 replace H := Option.bind_eq_some_iff.mp H
 obtain ⟨t300,A30,H⟩ := H
 replace H : (if t300 = true then ((spec_l1In.f a1 0 (wrap64 ((l0.length : Int) - 1))).bind fun t301 => (if t301 = true then ((spec_l9Base.f k l0 a1).bind fun t302 => (some t302)) else (some (-1)))) else (some (-1))) = some r := H
 have A3 := aM_ A30
 clear A30
 by_cases c4 : t300 = true
 ·subst c4
  have H1 : ((spec_l1In.f a1 0 (wrap64 ((l0.length : Int) - 1))).bind fun t301 => (if t301 = true then ((spec_l9Base.f k l0 a1).bind fun t302 => (some t302)) else (some (-1)))) = some r := by rw [if_pos rfl] at H;exact H
  clear H
  have H := H1
  clear H1
  replace H := Option.bind_eq_some_iff.mp H
  obtain ⟨t301,A50,H⟩ := H
  replace H : (if t301 = true then ((spec_l9Base.f k l0 a1).bind fun t302 => (some t302)) else (some (-1))) = some r := H
  have A5 := aM_ A50
  clear A50
  by_cases c6 : t301 = true
  ·subst c6
   have H1 : ((spec_l9Base.f k l0 a1).bind fun t302 => (some t302)) = some r := by rw [if_pos rfl] at H;exact H
   clear H
   have H := H1
   clear H1
   replace H := Option.bind_eq_some_iff.mp H
   obtain ⟨t302,A70,H⟩ := H
   replace H : (some t302) = some r := H
   have A7 := aM_ A70
   clear A70
   obtain rfl := Option.some.inj H
   go_enter Try.func48,Try.ntmps48
   go_wp2_with (first | ((with_reducible refine gate_callee (f := 110) rfl ?_);refine gL_ (some 6) Try.func110 #[.slice A0 l0.length c0] ?_;(with_reducible refine (spec_l9Right.calls k _ _ l0 true _ ?side1 ?side2 A3.out).mono ?_);(case side1 => exact cS_ HR0.out);(case side2 => exact HC0.out);rintro e w' ⟨rfl,⟨nd,rfl⟩⟩;refine ⟨_,rfl,?_⟩) | (go_at_call 111;(with_reducible refine (spec_l1In.calls a1 0 (wrap64 ((l0.length : Int) - 1)) true _ A5.out).mono ?_);rintro e w' ⟨rfl,⟨nd,rfl⟩⟩) | ((with_reducible refine gate_callee (f := 112) rfl ?_);refine gL_ (some 18) Try.func112 #[.slice A0 l0.length c0,.int .i64 a1] ?_;(with_reducible refine (spec_l9Base.calls k _ _ l0 a1 t302 _ ?side1 ?side2 A7.out).mono ?_);(case side1 => exact cS_ HR0.out);(case side2 => exact HC0.out);rintro e w' ⟨rfl,⟨nd,rfl⟩⟩;refine ⟨_,rfl,?_⟩))
   go_ret
   exact ⟨by first | rfl | (simp;done) | (simp [*];done),by repeat (first | exact Drawn0.refl _ | apply Drawn0.step)⟩
  ·replace c6 := Bool.eq_false_iff.mpr c6
   subst c6
   have H1 : (some (-1)) = some r := by rw [if_neg (show ¬ (false = true) by decide)] at H;exact H
   clear H
   have H := H1
   clear H1
   obtain rfl := Option.some.inj H
   go_enter Try.func48,Try.ntmps48
   go_wp2_with (first | ((with_reducible refine gate_callee (f := 110) rfl ?_);refine gL_ (some 6) Try.func110 #[.slice A0 l0.length c0] ?_;(with_reducible refine (spec_l9Right.calls k _ _ l0 true _ ?side1 ?side2 A3.out).mono ?_);(case side1 => exact cS_ HR0.out);(case side2 => exact HC0.out);rintro e w' ⟨rfl,⟨nd,rfl⟩⟩;refine ⟨_,rfl,?_⟩) | (go_at_call 111;(with_reducible refine (spec_l1In.calls a1 0 (wrap64 ((l0.length : Int) - 1)) false _ A5.out).mono ?_);rintro e w' ⟨rfl,⟨nd,rfl⟩⟩))
   go_ret
   exact ⟨by first | rfl | (simp;done) | (simp [*];done),by repeat (first | exact Drawn0.refl _ | apply Drawn0.step)⟩
 ·replace c4 := Bool.eq_false_iff.mpr c4
  subst c4
  have H1 : (some (-1)) = some r := by rw [if_neg (show ¬ (false = true) by decide)] at H;exact H
  clear H
  have H := H1
  clear H1
  obtain rfl := Option.some.inj H
  go_enter Try.func48,Try.ntmps48
  go_wp2_with (first | ((with_reducible refine gate_callee (f := 110) rfl ?_);refine gL_ (some 6) Try.func110 #[.slice A0 l0.length c0] ?_;(with_reducible refine (spec_l9Right.calls k _ _ l0 false _ ?side1 ?side2 A3.out).mono ?_);(case side1 => exact cS_ HR0.out);(case side2 => exact HC0.out);rintro e w' ⟨rfl,⟨nd,rfl⟩⟩;refine ⟨_,rfl,?_⟩))
  go_ret
  exact ⟨by first | rfl | (simp;done) | (simp [*];done),by repeat (first | exact Drawn0.refl _ | apply Drawn0.step)⟩
def spec_ViewOk.l0 : Nat → List Int → Int → List (List (S170)) → Option (Bool)
  | 0,_,_,_ => none
  | k + 1,x1,x5,x304000 => if x5 < (x1.length : Int) then (if 0 ≤ x5 then (if x5 < (x304000.length : Int) then ((spec_l1In.f (rd x1 x5) 0 (wrap64 (((rd_L14 x304000 x5).length : Int) - 1))).bind fun t306 => (if t306 = true then (spec_ViewOk.l0 k x1 (wrap64 (x5 + 1)) x304000) else (some false))) else (none)) else (none)) else (some true)
def spec_ViewOk.f (k : Nat) (l0_0 : List (List (S170))) (l1 : List Int) : Option (Bool) := if (l1.length : Int) = (l0_0.length : Int) then (spec_ViewOk.l0 k l1 0 l0_0) else (some false)
set_option maxHeartbeats 8000000 in
set_option maxRecDepth 100000 in
theorem spec_ViewOk.calls (k : Nat) (A0_0 : Option Addr) (c0_0 : Nat) (l0_0 : List (List (S170))) (A1 : Option Addr) (c1 : Nat) (l1 : List Int) (r : Bool) (w : World) (hr0_0 : Kd.C (Kd.slice 170 k170) w A0_0 l0_0.length l0_0) (hc0_0 : l0_0.length ≤ c0_0) (hr1 : Kd.C (Kd.int .i64) w A1 l1.length l1) (hc1 : l1.length ≤ c1) (h : spec_ViewOk.f k l0_0 l1 = some r) :
  Calls Try.prog 133 #[.agg #[.slice A0_0 l0_0.length c0_0],.slice A1 l1.length c1] w fun e w' => e = .returned (.bool r) ∧ Below w.heap.size w w' := by
 have hu57 := Try.underlying57
 have HR0_0 := aM_ hr0_0
 have HC0_0 := aM_ hc0_0
 clear hr0_0 hc0_0
 have HR1 := aM_ hr1
 have HC1 := aM_ hc1
 clear hr1 hc1
 have HB := aM_ (Below.refl w.heap.size w)
 have H : (if (l1.length : Int) = (l0_0.length : Int) then (spec_ViewOk.l0 k l1 0 l0_0) else (some false)) = some r := h
 clear h
 by_cases c3 : (l1.length : Int) = (l0_0.length : Int)
 ·rw [if_pos c3] at H
  have c3b0 : ((l1.length : Int) == (l0_0.length : Int)) = true := beq_iff_eq.mpr c3
  have c3b1 : ((l1.length : Int) != (l0_0.length : Int)) = false := bne_eq_false_iff_eq.mpr c3
  have c3b2 : (l1.length == l0_0.length) = true := by first | simpa using c3 | (simp at c3 ⊢;omega)
  clear c3
  have H' := aM_ H
  clear H
  go_enter Try.func133,Try.ntmps133
  go_wp2_with (first | ((with_reducible refine gate_dst (N := 2) rfl ?_);refine bX_ 2 (cs := #[.slice A0_0 l0_0.length c0_0]) (t := 57) ?_;intro gb303 hg w4 hbox hb;have n0 := aM_ (sT_ HB.out hb);have n1 := aM_ (hbox);have n2 := aM_ (sZ_ hg HB.out);have n3 := aM_ (sZ_ hg HB.out);clear HB;have HB := n0;have BK303 := n1;have GW303 := n2;have GE303 := n3;clear n0 n1 n2 n3;clear hb hbox hg;have hcz5_0 : w4.cell? ⟨gb303,0,none⟩ = some (.slice A0_0 l0_0.length c0_0) := (blk_cell BK303.out 0).trans rfl;have hfz5_0 := blk_frozen BK303.out 0))
  repeat (go_quiet (first | ((with_reducible refine gate_dst (N := 2) rfl ?_);refine bX_ 2 (cs := #[.slice A0_0 l0_0.length c0_0]) (t := 57) ?_;intro gb303 hg w4 hbox hb;have n0 := aM_ (sT_ HB.out hb);have n1 := aM_ (hbox);have n2 := aM_ (sZ_ hg HB.out);have n3 := aM_ (sZ_ hg HB.out);clear HB;have HB := n0;have BK303 := n1;have GW303 := n2;have GE303 := n3;clear n0 n1 n2 n3;clear hb hbox hg;have hcz5_0 : w4.cell? ⟨gb303,0,none⟩ = some (.slice A0_0 l0_0.length c0_0) := (blk_cell BK303.out 0).trans rfl;have hfz5_0 := blk_frozen BK303.out 0));try go_wp2_with (first | ((with_reducible refine gate_dst (N := 2) rfl ?_);refine bX_ 2 (cs := #[.slice A0_0 l0_0.length c0_0]) (t := 57) ?_;intro gb303 hg w4 hbox hb;have n0 := aM_ (sT_ HB.out hb);have n1 := aM_ (hbox);have n2 := aM_ (sZ_ hg HB.out);have n3 := aM_ (sZ_ hg HB.out);clear HB;have HB := n0;have BK303 := n1;have GW303 := n2;have GE303 := n3;clear n0 n1 n2 n3;clear hb hbox hg;have hcz5_0 : w4.cell? ⟨gb303,0,none⟩ = some (.slice A0_0 l0_0.length c0_0) := (blk_cell BK303.out 0).trans rfl;have hfz5_0 := blk_frozen BK303.out 0)))
  go_loopg [5] k (fun kq v5 w' => ∃ (x5_1 : Int),v5 = .int .i64 x5_1 ∧ Aside0 (spec_ViewOk.l0 kq l1 x5_1 l0_0 = some r) ∧ Aside0 (kq ≤ k) ∧ Aside0 (w'.heap[gb303]? = some (.cells #[(.slice A0_0 l0_0.length c0_0)] 57 (0,0))) ∧ Aside0 (Below w.heap.size w w'))
  case atStart => exact ⟨(0),(by first | rfl | (simp;done) | (simp [*];done)),H',⟨Nat.le_refl _⟩,⟨rW_ BK303.out⟩,⟨gW_ HB.out⟩⟩
  case round =>
   clear H'
   try clear c1
   try clear p2
   try clear c3
   try clear c3b0
   try clear c3b1
   try clear c3b2
   try clear hcz5_0 hfz5_0
   obtain ⟨x5_1,rfl,HA,HK1,BK303,HB⟩ := hrel
   cases gk with
   | zero => exact absurd HA.out (by simp [spec_ViewOk.l0])
   | succ k1 =>
    have H := HA.out
    clear HA
    simp only [spec_ViewOk.l0] at H
    by_cases c6 : x5_1 < (l1.length : Int)
    ·rw [if_pos c6] at H
     have c6b0 : decide (x5_1 < (l1.length : Int)) = true := decide_eq_true c6
     clear c6
     by_cases c7 : 0 ≤ x5_1
     ·rw [if_pos c7] at H
      have c7b0 : decide (0 ≤ x5_1) = true := decide_eq_true c7
      clear c7
      by_cases c8 : x5_1 < (l0_0.length : Int)
      ·rw [if_pos c8] at H
       have c8b0 : decide (x5_1 < (l0_0.length : Int)) = true := decide_eq_true c8
       clear c8
       replace H := Option.bind_eq_some_iff.mp H
       obtain ⟨t306,A90,H⟩ := H
       replace H : (if t306 = true then (spec_ViewOk.l0 k1 l1 (wrap64 (x5_1 + 1)) l0_0) else (some false)) = some r := H
       have A9 := aM_ A90
       clear A90
       by_cases c10 : t306 = true
       ·subst c10
        have H1 : (spec_ViewOk.l0 k1 l1 (wrap64 (x5_1 + 1)) l0_0) = some r := by rw [if_pos rfl] at H;exact H
        clear H
        have H := H1
        clear H1
        have H' := aM_ H
        clear H
        have p304 : 0 ≤ (x5_1 : Int) := of_decide_eq_true (by first | (with_reducible assumption) | assumption)
        have q304 : x5_1 < (l1.length : Int) := of_decide_eq_true (by first | (with_reducible assumption) | assumption)
        obtain ⟨ad304,e304,hx304_0⟩ := Kd.at_int HR1.out x5_1 p304 q304
        cases e304
        replace hx304_0 := cB_ HB.out hx304_0
        replace p304 := eq_true p304
        replace q304 := eq_true q304
        have hcz11_0 : wr.cell? ⟨gb303,0,none⟩ = some (.slice A0_0 l0_0.length c0_0) := (blk_cell BK303.out 0).trans rfl
        have hfz11_0 := blk_frozen BK303.out 0
        have p305 : 0 ≤ (x5_1 : Int) := of_decide_eq_true (by first | (with_reducible assumption) | assumption)
        have q305 : x5_1 < (l0_0.length : Int) := of_decide_eq_true (by first | (with_reducible assumption) | assumption)
        obtain ⟨ad305,A305_0,c305_0,e305,hx305_0,hl305_0,hi305_0⟩ := at_L14 HR0_0.out x5_1 p305 q305
        cases e305
        replace hx305_0 := cB_ HB.out hx305_0
        have HR305_0 := aM_ hi305_0
        have HC305_0 := aM_ hl305_0
        clear hi305_0 hl305_0
        replace p305 := eq_true p305
        replace q305 := eq_true q305
        go_wp2_with (first | (go_at_call 111;(with_reducible refine (spec_l1In.calls (rd l1 x5_1) 0 (wrap64 (((rd_L14 l0_0 x5_1).length : Int) - 1)) true _ A9.out).mono ?_);rintro e w' ⟨rfl,⟨nd,rfl⟩⟩;(try first | exact ⟨rfl,_,World.drewN_drewN _ _ _⟩ | exact ⟨rfl,_,Eq.trans (World.drewN_drewN _ _ _) (congrArg (World.drewN _) (Nat.add_assoc _ _ _))⟩)))
        repeat (go_quiet (first | (go_at_call 111;(with_reducible refine (spec_l1In.calls (rd l1 x5_1) 0 (wrap64 (((rd_L14 l0_0 x5_1).length : Int) - 1)) true _ A9.out).mono ?_);rintro e w' ⟨rfl,⟨nd,rfl⟩⟩;(try first | exact ⟨rfl,_,World.drewN_drewN _ _ _⟩ | exact ⟨rfl,_,Eq.trans (World.drewN_drewN _ _ _) (congrArg (World.drewN _) (Nat.add_assoc _ _ _))⟩)));try go_wp2_with (first | (go_at_call 111;(with_reducible refine (spec_l1In.calls (rd l1 x5_1) 0 (wrap64 (((rd_L14 l0_0 x5_1).length : Int) - 1)) true _ A9.out).mono ?_);rintro e w' ⟨rfl,⟨nd,rfl⟩⟩;(try first | exact ⟨rfl,_,World.drewN_drewN _ _ _⟩ | exact ⟨rfl,_,Eq.trans (World.drewN_drewN _ _ _) (congrArg (World.drewN _) (Nat.add_assoc _ _ _))⟩))))
        go_roundg k1
        case measure => have := HK1.out;omega
        case rel => exact ⟨(wrap64 (x5_1 + 1)),(by first | rfl | (simp;done) | (simp [*];done)),H',⟨by have := HK1.out;omega⟩,⟨rW_ BK303.out⟩,⟨gW_ HB.out⟩⟩
       ·replace c10 := Bool.eq_false_iff.mpr c10
        subst c10
        have H1 : (some false) = some r := by rw [if_neg (show ¬ (false = true) by decide)] at H;exact H
        clear H
        have H := H1
        clear H1
        obtain rfl := Option.some.inj H
        have p304 : 0 ≤ (x5_1 : Int) := of_decide_eq_true (by first | (with_reducible assumption) | assumption)
        have q304 : x5_1 < (l1.length : Int) := of_decide_eq_true (by first | (with_reducible assumption) | assumption)
        obtain ⟨ad304,e304,hx304_0⟩ := Kd.at_int HR1.out x5_1 p304 q304
        cases e304
        replace hx304_0 := cB_ HB.out hx304_0
        replace p304 := eq_true p304
        replace q304 := eq_true q304
        have hcz12_0 : wr.cell? ⟨gb303,0,none⟩ = some (.slice A0_0 l0_0.length c0_0) := (blk_cell BK303.out 0).trans rfl
        have hfz12_0 := blk_frozen BK303.out 0
        have p305 : 0 ≤ (x5_1 : Int) := of_decide_eq_true (by first | (with_reducible assumption) | assumption)
        have q305 : x5_1 < (l0_0.length : Int) := of_decide_eq_true (by first | (with_reducible assumption) | assumption)
        obtain ⟨ad305,A305_0,c305_0,e305,hx305_0,hl305_0,hi305_0⟩ := at_L14 HR0_0.out x5_1 p305 q305
        cases e305
        replace hx305_0 := cB_ HB.out hx305_0
        have HR305_0 := aM_ hi305_0
        have HC305_0 := aM_ hl305_0
        clear hi305_0 hl305_0
        replace p305 := eq_true p305
        replace q305 := eq_true q305
        go_wp2_with (first | (go_at_call 111;(with_reducible refine (spec_l1In.calls (rd l1 x5_1) 0 (wrap64 (((rd_L14 l0_0 x5_1).length : Int) - 1)) false _ A9.out).mono ?_);rintro e w' ⟨rfl,⟨nd,rfl⟩⟩;(try first | exact ⟨rfl,_,World.drewN_drewN _ _ _⟩ | exact ⟨rfl,_,Eq.trans (World.drewN_drewN _ _ _) (congrArg (World.drewN _) (Nat.add_assoc _ _ _))⟩)))
        repeat (go_quiet (first | (go_at_call 111;(with_reducible refine (spec_l1In.calls (rd l1 x5_1) 0 (wrap64 (((rd_L14 l0_0 x5_1).length : Int) - 1)) false _ A9.out).mono ?_);rintro e w' ⟨rfl,⟨nd,rfl⟩⟩;(try first | exact ⟨rfl,_,World.drewN_drewN _ _ _⟩ | exact ⟨rfl,_,Eq.trans (World.drewN_drewN _ _ _) (congrArg (World.drewN _) (Nat.add_assoc _ _ _))⟩)));try go_wp2_with (first | (go_at_call 111;(with_reducible refine (spec_l1In.calls (rd l1 x5_1) 0 (wrap64 (((rd_L14 l0_0 x5_1).length : Int) - 1)) false _ A9.out).mono ?_);rintro e w' ⟨rfl,⟨nd,rfl⟩⟩;(try first | exact ⟨rfl,_,World.drewN_drewN _ _ _⟩ | exact ⟨rfl,_,Eq.trans (World.drewN_drewN _ _ _) (congrArg (World.drewN _) (Nat.add_assoc _ _ _))⟩))))
        go_ret
        exact fI_ HB.out
      ·rw [if_neg c8] at H
       exact absurd H (by simp)
     ·rw [if_neg c7] at H
      exact absurd H (by simp)
    ·rw [if_neg c6] at H
     have c6b0 : decide (x5_1 < (l1.length : Int)) = false := decide_eq_false c6
     clear c6
     obtain rfl := Option.some.inj H
     go_wp2
     repeat (go_quiet (fail);try go_wp2)
     go_ret
     exact fI_ HB.out
 ·rw [if_neg c3] at H
  have c3b0 : ((l1.length : Int) == (l0_0.length : Int)) = false := beq_eq_false_iff_ne.mpr c3
  have c3b1 : ((l1.length : Int) != (l0_0.length : Int)) = true := bne_iff_ne.mpr c3
  have c3b2 : (l1.length == l0_0.length) = false := by first | simpa using c3 | (simp at c3 ⊢;omega)
  obtain rfl := Option.some.inj H
  go_enter Try.func133,Try.ntmps133
  go_wp2_with (first | ((with_reducible refine gate_dst (N := 2) rfl ?_);refine bX_ 2 (cs := #[.slice A0_0 l0_0.length c0_0]) (t := 57) ?_;intro gb303 hg w13 hbox hb;have n0 := aM_ (sT_ HB.out hb);have n1 := aM_ (hbox);have n2 := aM_ (sZ_ hg HB.out);have n3 := aM_ (sZ_ hg HB.out);clear HB;have HB := n0;have BK303 := n1;have GW303 := n2;have GE303 := n3;clear n0 n1 n2 n3;clear hb hbox hg;have hcz14_0 : w13.cell? ⟨gb303,0,none⟩ = some (.slice A0_0 l0_0.length c0_0) := (blk_cell BK303.out 0).trans rfl;have hfz14_0 := blk_frozen BK303.out 0))
  repeat (go_quiet (first | ((with_reducible refine gate_dst (N := 2) rfl ?_);refine bX_ 2 (cs := #[.slice A0_0 l0_0.length c0_0]) (t := 57) ?_;intro gb303 hg w13 hbox hb;have n0 := aM_ (sT_ HB.out hb);have n1 := aM_ (hbox);have n2 := aM_ (sZ_ hg HB.out);have n3 := aM_ (sZ_ hg HB.out);clear HB;have HB := n0;have BK303 := n1;have GW303 := n2;have GE303 := n3;clear n0 n1 n2 n3;clear hb hbox hg;have hcz14_0 : w13.cell? ⟨gb303,0,none⟩ = some (.slice A0_0 l0_0.length c0_0) := (blk_cell BK303.out 0).trans rfl;have hfz14_0 := blk_frozen BK303.out 0));try go_wp2_with (first | ((with_reducible refine gate_dst (N := 2) rfl ?_);refine bX_ 2 (cs := #[.slice A0_0 l0_0.length c0_0]) (t := 57) ?_;intro gb303 hg w13 hbox hb;have n0 := aM_ (sT_ HB.out hb);have n1 := aM_ (hbox);have n2 := aM_ (sZ_ hg HB.out);have n3 := aM_ (sZ_ hg HB.out);clear HB;have HB := n0;have BK303 := n1;have GW303 := n2;have GE303 := n3;clear n0 n1 n2 n3;clear hb hbox hg;have hcz14_0 : w13.cell? ⟨gb303,0,none⟩ = some (.slice A0_0 l0_0.length c0_0) := (blk_cell BK303.out 0).trans rfl;have hfz14_0 := blk_frozen BK303.out 0)))
  go_ret
  exact fI_ HB.out
end Go.Proofs.Ytobachfngmpeiaa.PFnExactChanSame
