/- A part of the proof that the law FnExactChanSame holds for every input: the words, functions and walks that its row needs, without a condition of their own. -/
import Derived.Test.YtobachfngmpeiaaZFnExactChanSamea2
import Derived.Test.YtobachfngmpeiaaZFnExactChanSamea3
import Derived.Test.YtobachfngmpeiaaZFnExactChanSamea12
import Derived.Test.YtobachfngmpeiaaZFnExactChanSamea16
import Derived.Test.YtobachfngmpeiaaZFnExactChanSames
namespace Go.Proofs.Ytobachfngmpeiaa.PFnExactChanSame
open Go.RowKit Go.Proofs.YtobachfngmpeiaaW.PrintWords Go.Proofs.YtobachfngmpeiaaW.PrintLast Go.Proofs.YtobachfngmpeiaaW.PrintMore
attribute [local go_sem] max2_int min2_int max_two min_two max_three min_three max_four min_four   -- for this text's walks alone
set_option linter.unusedVariables false
set_option linter.unusedSimpArgs false
def laws_toStepSS.l0 : Nat → List (List (S177)) → List (List (S175)) → Int → Option ((List (List (S175))))
  | 0,_,_,_ => none
  | k + 1,x0,x3,x4 => if x4 < (x0.length : Int) then (if 0 ≤ x4 then ((laws_toStepS.f k (rd_L19 x0 x4)).bind fun t374 => (if x4 < (x3.length : Int) then (laws_toStepSS.l0 k x0 (x3.set (x4 : Int).toNat t374) (wrap64 (x4 + 1))) else (none))) else (none)) else (some x3)
def laws_toStepSS.f (k : Nat) (l0 : List (List (S177))) : Option ((List (List (S175)))) := if 0 ≤ (l0.length : Int) then (if ((l0.length : Int) : Int).toNat ≤ 11728124029610 then (laws_toStepSS.l0 k l0 (List.replicate ((l0.length : Int) : Int).toNat []) 0) else (none)) else (none)
set_option maxHeartbeats 8000000 in
set_option maxRecDepth 100000 in
theorem laws_toStepSS.calls (k : Nat) (A0 : Option Addr) (c0 : Nat) (l0 : List (List (S177))) (r : List (List (S175))) (w : World) (hr0 : Kd.C (Kd.slice 177 k177) w A0 l0.length l0) (hc0 : l0.length ≤ c0) (h : laws_toStepSS.f k l0 = some r) :
  Calls Try.prog 26 #[.slice A0 l0.length c0] w fun e w' => ∃ v0_ : Value,e = .returned (v0_) ∧ Kd.S (Kd.slice 175 k175) 125 w' w.heap.size (fun _ => True) v0_ r ∧ Below w.heap.size w w' := by
 have HR0 := aM_ hr0
 have HC0 := aM_ hc0
 clear hr0 hc0
 have HB := aM_ (Below.refl w.heap.size w)
 have H : (if 0 ≤ (l0.length : Int) then (if ((l0.length : Int) : Int).toNat ≤ 11728124029610 then (laws_toStepSS.l0 k l0 (List.replicate ((l0.length : Int) : Int).toNat []) 0) else (none)) else (none)) = some r := h
 clear h
 by_cases c2 : 0 ≤ (l0.length : Int)
 ·rw [if_pos c2] at H
  have c2b0 := eq_true c2
  have c2b1 : decide (0 ≤ (l0.length : Int)) = true := decide_eq_true c2
  clear c2
  by_cases c3 : ((l0.length : Int) : Int).toNat ≤ 11728124029610
  ·rw [if_pos c3] at H
   have c3b0 := eq_true c3
   have c3b1 : decide (((l0.length : Int) : Int).toNat ≤ 11728124029610) = true := decide_eq_true c3
   clear c3
   obtain ⟨y370,hy370⟩ : ∃ y_ : List (List (S175)),y_ = (List.replicate ((l0.length : Int) : Int).toNat []) := ⟨_,rfl⟩
   replace H : (laws_toStepSS.l0 k l0 y370 0) = some r := by first | (rw [hy370];with_reducible exact H) | (have H2_ := (Option.bind_some _ _).symm.trans H;rw [hy370];with_reducible exact H2_) | (have H2_ := (Option.bind_some _ _).symm.trans H;with_reducible exact H2_) | with_reducible exact H | (rw [hy370];exact H) | exact H
   have Ny370 := aM_ hy370
   clear hy370
   have H' := aM_ H
   clear H
   go_enter Try.func26,Try.ntmps26
   go_wp2_with (first | ((with_reducible refine gate_dst (N := 7) rfl ?_);refine Kd.S_make (Kd.slice 175 k175) _ 125 rfl (N := 7) rfl 53 _ _ rfl (l0.length : Int) rfl rfl Try.underlying53 (.slice none 0 0) 24 info125 rfl (by decide) (by omega) [] (ok := fun _ => True) (okp := fun _ => True) ⟨_,rfl,Kd.R_nil _ _ _ _ _⟩ (fun _ hk => hk) trivial (of_decide_eq_true (by first | (with_reducible assumption) | assumption)) (Nat.le_trans (Nat.mul_le_mul_right _ (of_decide_eq_true (by first | (with_reducible assumption) | assumption) : (l0.length : Int).toNat ≤ 11728124029610)) (by omega)) (Below.refl _ _) (Nat.le_refl _) ?_;intro v371 w4 ho5 hb hg_ hnew_;clear hg_ hnew_;(first | rw [← Ny370.out] at ho5 | (simp only [Int.reduceToNat] at ho5;rw [← Ny370.out] at ho5));have n0 := aM_ (Kd.S_lower ho5 (below_size (gB_ HB.out)));have n1 := aM_ (sT_ HB.out hb);clear HB;have HO372 := n0;have HB := n1;clear n0 n1;clear hb ho5))
   go_loopg [4] k (fun kq v4 w' => ∃ (x3_1 : List (List (S175))) (x4_1 : Int),v4 = .int .i64 x4_1 ∧ Aside0 (laws_toStepSS.l0 kq l0 x3_1 x4_1 = some r) ∧ Aside0 (kq ≤ k) ∧ Aside0 (Kd.S (Kd.slice 175 k175) 125 w' w.heap.size (fun _ => True) v371 x3_1) ∧ Aside0 (Below w.heap.size w w'))
   case atStart => exact ⟨(y370),(0),(by first | rfl | (simp;done) | (simp [*];done)),H',⟨Nat.le_refl _⟩,⟨by (with_reducible repeat (first | apply Kd.S_alloc | apply Kd.S_drewN | apply Kd.S_drew));exact HO372.out⟩,⟨gW_ HB.out⟩⟩
   case round =>
    clear H'
    try clear c2
    try clear c2b0
    try clear c2b1
    try clear p2
    try clear c3
    try clear c3b0
    try clear c3b1
    obtain ⟨x3_1,x4_1,rfl,HA,HK1,HO_3,HB⟩ := hrel
    cases gk with
    | zero => exact absurd HA.out (by simp [laws_toStepSS.l0])
    | succ k1 =>
     have H := HA.out
     clear HA
     simp only [laws_toStepSS.l0] at H
     by_cases c6 : x4_1 < (l0.length : Int)
     ·rw [if_pos c6] at H
      have c6b0 : decide (x4_1 < (l0.length : Int)) = true := decide_eq_true c6
      clear c6
      by_cases c7 : 0 ≤ x4_1
      ·rw [if_pos c7] at H
       have c7b0 : decide (0 ≤ x4_1) = true := decide_eq_true c7
       clear c7
       replace H := Option.bind_eq_some_iff.mp H
       obtain ⟨t374,A80,H⟩ := H
       replace H : (if x4_1 < (x3_1.length : Int) then (laws_toStepSS.l0 k1 l0 (x3_1.set (x4_1 : Int).toNat t374) (wrap64 (x4_1 + 1))) else (none)) = some r := H
       have A8 := aM_ A80
       clear A80
       by_cases c9 : x4_1 < (x3_1.length : Int)
       ·rw [if_pos c9] at H
        have c9b0 : decide (x4_1 < (x3_1.length : Int)) = true := decide_eq_true c9
        clear c9
        obtain ⟨y377,hy377⟩ : ∃ y_ : List (List (S175)),y_ = (x3_1.set (x4_1 : Int).toNat t374) := ⟨_,rfl⟩
        replace H : (laws_toStepSS.l0 k1 l0 y377 (wrap64 (x4_1 + 1))) = some r := by first | (rw [hy377];with_reducible exact H) | (have H2_ := (Option.bind_some _ _).symm.trans H;rw [hy377];with_reducible exact H2_) | (have H2_ := (Option.bind_some _ _).symm.trans H;with_reducible exact H2_) | with_reducible exact H | (rw [hy377];exact H) | exact H
        have Ny377 := aM_ hy377
        clear hy377
        have H' := aM_ H
        clear H
        have p373 : 0 ≤ (x4_1 : Int) := of_decide_eq_true (by first | (with_reducible assumption) | assumption)
        have q373 : x4_1 < (l0.length : Int) := of_decide_eq_true (by first | (with_reducible assumption) | assumption)
        obtain ⟨ad373,A373_0,c373_0,e373,hx373_0,hl373_0,hi373_0⟩ := at_L19 HR0.out x4_1 p373 q373
        cases e373
        replace hx373_0 := cB_ HB.out hx373_0
        have HR373_0 := aM_ hi373_0
        have HC373_0 := aM_ hl373_0
        clear hi373_0 hl373_0
        replace p373 := eq_true p373
        replace q373 := eq_true q373
        go_wp2_with (first | ((with_reducible refine gate_callee (f := 79) rfl ?_);refine gL_ (some 20) Try.func79 #[.slice A373_0 (rd_L19 l0 x4_1).length c373_0] ?_;(with_reducible refine (laws_toStepS.calls k1 _ _ (rd_L19 l0 x4_1) t374 _ ?side1 ?side2 A8.out).mono ?_);(case side1 => exact cS_ (Kd.C_below HR373_0.out HB.out));(case side2 => exact HC373_0.out);rintro e w11 ⟨v375,rfl,ho0,hb⟩;refine ⟨_,rfl,?_⟩;have n0 := aM_ (Kd.S_elder' (by (with_reducible repeat (first | apply Kd.S_alloc | apply Kd.S_drewN | apply Kd.S_drew));exact HO_3.out) (Kd.R_base ho0) hb);have n1 := aM_ (Kd.R_lower ho0 (below_size (gB_ HB.out)));have n2 := aM_ (sT_ HB.out hb);clear HO_3;clear HB;have HO_3 := n0;have HO376 := n1;have HB := n2;clear n0 n1 n2;(try clear ho0);have p10 : 0 ≤ (x4_1 : Int) := of_decide_eq_true (by first | (with_reducible assumption) | assumption);have q10 : (x4_1 : Int) < ((x3_1.length : Int) : Int) := of_decide_eq_true (by first | (with_reducible assumption) | assumption);obtain ⟨go10,co10,eo10,gb10,gl10,cl10,HG10⟩ := Kd.S_form HO_3.out (by omega);(first | cases eo10 | (injection eo10 with ea_ en_ ec_;(first | subst ea_ | (injection ea_ with ea_;subst ea_));subst ec_;clear en_));have GB10 := aM_ gb10;have GG10 := aM_ HG10;clear gb10 gl10 HG10;obtain ⟨_,ce10,hcl10,hM10,hcc10,hfr10,_,_⟩ := Kd.S_elem HO_3.out [] (x4_1 : Int) p10 q10;obtain ⟨ve10_0,rfl,ge10_0⟩ := hM10;have hx10_0 := hcc10 0 _ rfl;have hf10_0 := hfr10 0;(try simp only [show ((Kd.slice 175 k175)).sz = 1 from rfl,Nat.mul_one,Nat.add_zero] at hx10_0);(try simp only [show ((Kd.slice 175 k175)).sz = 1 from rfl,Nat.mul_one,Nat.add_zero] at hf10_0);(try clear hcl10);(try clear hcc10);(try clear hfr10);(try clear hM10);replace p10 := eq_true p10;replace q10 := eq_true q10;have n_ := aM_ (Kd.S_mono (ok' := (fun k_ => some k_ ≠ (v375 : Value).ownBlock)) HO_3.out (fun k_ hk => hk.2));clear HO_3;have HO_3 := n_;clear n_;have HX12 := aM_ (show Kd.S (Kd.slice 175 k175) 125 w11 w.heap.size (fun k_ => ((fun _ => True)) k_ ∧ ¬ ((fun k_ => some k_ = (v375 : Value).ownBlock)) k_) (.slice (some ⟨go10,0,none⟩) x3_1.length co10) x3_1 from (by (with_reducible repeat (first | apply Kd.S_alloc | apply Kd.S_drewN | apply Kd.S_drew));exact Kd.S_mono HO_3.out (fun k_ hk => ⟨trivial,fun e_ => hk e_⟩)));obtain ⟨oki12,ce12,hcl12,hM12,hcc12,hfr12,hoki12,hH12⟩ := Kd.S_elem HX12.out [] (x4_1 : Int) (of_decide_eq_true (by first | (with_reducible assumption) | assumption)) (by have h_ : (x4_1 : Int) < ((x3_1.length : Int) : Int) := of_decide_eq_true (by first | (with_reducible assumption) | assumption);first | exact h_ | (have e_ := (Kd.S_reads' HO_3.out).1;omega) | simpa using h_);obtain ⟨ve12_0,rfl,ge12_0⟩ := hM12;have HP12 := Kd.S_seg hH12 (of_decide_eq_true (by first | (with_reducible assumption) | assumption)) (by have h_ : (x4_1 : Int) < ((x3_1.length : Int) : Int) := of_decide_eq_true (by first | (with_reducible assumption) | assumption);first | exact h_ | (have e_ := (Kd.S_reads' HO_3.out).1;omega) | simpa using h_) (seg := [v375]) (j := 0) (show 1 ≤ 1 from by decide) (x' := t374) (Kd.M_row (Kd.R_mono (Kd.R_tight rfl (Kd.R_mono (ok' := fun k_ => ((fun _ => True)) k_ ∧ k_ ≠ go10) (Kd.R_apart' (HO376.out) (Kd.S_typed HO_3.out) (by decide)) (fun k_ hk => ⟨trivial,fun e_ => (hk.2) (by rw [e_];rfl)⟩))) (fun _ h_ => Or.inr (h_)))) (fun _ hk => hk) (fun k_ hk_ => ((Kd.R_mono (ok' := fun k_ => ((fun _ => True)) k_ ∧ k_ ≠ go10) (Kd.R_apart' (HO376.out) (Kd.S_typed HO_3.out) (by decide)) (fun k_ hk => ⟨trivial,fun e_ => (hk.2) (by rw [e_];rfl)⟩))).1 k_ hk_.symm);have hx12_0 := hcc12 0 _ rfl;(try simp only [show ((Kd.slice 175 k175)).sz = 1 from rfl,Nat.mul_one,Nat.add_zero] at hx12_0);have hf12_0 := hfr12 0;(try simp only [show ((Kd.slice 175 k175)).sz = 1 from rfl,Nat.mul_one,Nat.add_zero] at hf12_0);(try clear hcl12);(try clear hcc12);(try clear hfr12);(try clear hM12);(try clear hoki12);(try clear hH12);(try simp only [show ((Kd.slice 175 k175)).sz = 1 from rfl,Nat.mul_one,Nat.add_zero] at HP12)) | ((with_reducible refine gate_store (t := 125) (p := 21) rfl ?_);refine store_event (t := 125) (p := 21) (v := ?vo_w13) (w1 := (w11.setCell ⟨go10,(x4_1 : Int).toNat,none⟩ (v375))) ?hg ?ho ?hn ?hr ?_;(case ho => rfl);(case hg => rfl);(case hn => rfl);(case hr => first | (go_simp;done) | (go_simp;rfl) | (obtain ⟨_,_,e_⟩ := Kd.R_slice HO376.out;rw [e_];first | (go_simp;done) | (go_simp;rfl)) | (obtain ⟨_,_,e_⟩ := Kd.S_slice HO376.out;rw [e_];first | (go_simp;done) | (go_simp;rfl)) | (obtain ⟨_,_,e_⟩ := Kd.Q_slice HO376.out;rw [e_];first | (go_simp;done) | (go_simp;rfl)) | (obtain ⟨_,_,e_⟩ := Kd.N_slice HO376.out;rw [e_];first | (go_simp;done) | (go_simp;rfl)));intro w13 hw;have hg : w11.grownBy w13 (some go10) := (by rw [hw];exact HP12.2);have hp_ : Kd.S (Kd.slice 175 k175) 125 w13 w.heap.size (fun _ => True) (.slice (some ⟨go10,0,none⟩) x3_1.length co10) y377 := (by rw [hw,Ny377.out];exact HP12.1);clear HP12;have n0 := aM_ (hp_);have n1 := aM_ ((by rw [hw];exact below_set (HB.out) GB10.out : Below w.heap.size w w13));clear HO_3;clear HB;clear HO376;have HO_3 := n0;have HB := n1;clear n0 n1;clear hg hw hp_))
        go_roundg k1
        case measure => have := HK1.out;omega
        case rel => exact ⟨(y377),(wrap64 (x4_1 + 1)),(by first | rfl | (simp;done) | (simp [*];done)),H',⟨by have := HK1.out;omega⟩,⟨by (with_reducible repeat (first | apply Kd.S_alloc | apply Kd.S_drewN | apply Kd.S_drew));exact HO_3.out⟩,⟨gW_ HB.out⟩⟩
       ·rw [if_neg c9] at H
        exact absurd H (by simp)
      ·rw [if_neg c7] at H
       exact absurd H (by simp)
     ·rw [if_neg c6] at H
      have c6b0 : decide (x4_1 < (l0.length : Int)) = false := decide_eq_false c6
      clear c6
      obtain rfl := Option.some.inj H
      go_wp2
      go_ret
      exact ⟨_,fR_,by (with_reducible repeat (first | apply Kd.S_alloc | apply Kd.S_drewN | apply Kd.S_drew));exact HO_3.out,gB_ HB.out⟩
  ·rw [if_neg c3] at H
   exact absurd H (by simp)
 ·rw [if_neg c2] at H
  exact absurd H (by simp)
def laws_toCore.f (k : Nat) (a0_0 : Int) (l0_1 : List Int) (l0_2 : List Int) (a0_3 : Int) : Option (Int × List Int × List Int × Int) := (laws_toIntS.f k l0_1).bind fun t381 => ((laws_toIntS.f k l0_2).bind fun t384 => (some (a0_0,t381,t384,a0_3)))
set_option maxHeartbeats 8000000 in
set_option maxRecDepth 100000 in
theorem laws_toCore.calls (k : Nat) (a0_0 : Int) (A0_1 : Option Addr) (c0_1 : Nat) (l0_1 : List Int) (A0_2 : Option Addr) (c0_2 : Nat) (l0_2 : List Int) (a0_3 : Int) (r1 : Int) (r2 : List Int) (r3 : List Int) (r4 : Int) (w : World) (hr0_1 : Kd.C (Kd.int .i64) w A0_1 l0_1.length l0_1) (hc0_1 : l0_1.length ≤ c0_1) (hr0_2 : Kd.C (Kd.int .i64) w A0_2 l0_2.length l0_2) (hc0_2 : l0_2.length ≤ c0_2) (h : laws_toCore.f k a0_0 l0_1 l0_2 a0_3 = some (r1,r2,r3,r4)) :
  Calls Try.prog 154 #[.agg #[.int .i64 a0_0,.slice A0_1 l0_1.length c0_1,.slice A0_2 l0_2.length c0_2,.int .i64 a0_3]] w fun e w' => ∃ v1_ v2_ : Value,e = .returned (.agg #[.int .i64 r1,v1_,v2_,.int .i64 r4]) ∧ Kd.R (Kd.int .i64) 3 w' w.heap.size (fun k_ => some k_ ≠ (v2_ : Value).ownBlock) v1_ r2 ∧ Kd.R (Kd.int .i64) 3 w' w.heap.size (fun k_ => some k_ ≠ (v1_ : Value).ownBlock) v2_ r3 ∧ Below w.heap.size w w' := by
 have hu194 := Try.underlying194
 have hu123 := Try.underlying123
 have HR0_1 := aM_ hr0_1
 have HC0_1 := aM_ hc0_1
 clear hr0_1 hc0_1
 have HR0_2 := aM_ hr0_2
 have HC0_2 := aM_ hc0_2
 clear hr0_2 hc0_2
 have HB := aM_ (Below.refl w.heap.size w)
 have H : ((laws_toIntS.f k l0_1).bind fun t381 => ((laws_toIntS.f k l0_2).bind fun t384 => (some (a0_0,t381,t384,a0_3)))) = some (r1,r2,r3,r4) := h
 clear h
 replace H := Option.bind_eq_some_iff.mp H
 obtain ⟨t381,A20,H⟩ := H
 replace H : ((laws_toIntS.f k l0_2).bind fun t384 => (some (a0_0,t381,t384,a0_3))) = some (r1,r2,r3,r4) := H
 have A2 := aM_ A20
 clear A20
 replace H := Option.bind_eq_some_iff.mp H
 obtain ⟨t384,A30,H⟩ := H
 replace H : (some (a0_0,t381,t384,a0_3)) = some (r1,r2,r3,r4) := H
 have A3 := aM_ A30
 clear A30
 simp only [Option.some.injEq,Prod.mk.injEq] at H
 obtain ⟨rfl,rfl,rfl,rfl⟩ := H
 go_enter Try.func154,Try.ntmps154
 go_wp2_with (first | ((with_reducible refine gate_dst (N := 1) rfl ?_);refine bX_ 1 (cs := #[.int .i64 a0_0,.slice A0_1 l0_1.length c0_1,.slice A0_2 l0_2.length c0_2,.int .i64 a0_3]) (t := 194) ?_;intro gb378 hg w4 hbox hb;have n0 := aM_ (sT_ HB.out hb);have n1 := aM_ (hbox);have n2 := aM_ (sZ_ hg HB.out);have n3 := aM_ (sZ_ hg HB.out);clear HB;have HB := n0;have BK378 := n1;have GW378 := n2;have GE378 := n3;clear n0 n1 n2 n3;clear hb hbox hg) | ((with_reducible refine gate_dst (N := 2) rfl ?_);refine bX_ 2 (cs := #[.int .i64 0,.slice none 0 0,.slice none 0 0,.int .i64 0]) (t := 123) ?_;intro gb379 hg w5 hbox hb;have n0 := aM_ (nB_ BK378.out hb);have n1 := aM_ (sT_ HB.out hb);have n2 := aM_ (hbox);have n3 := aM_ (sZ_ hg HB.out);have n4 := aM_ (sZ_ hg HB.out);have n5 := aM_ (nL_ hg BK378.out);have n6 := aM_ (nG_ hg BK378.out);clear BK378;clear HB;have BK378 := n0;have HB := n1;have BK379 := n2;have GW379 := n3;have GE379 := n4;have NB378_379 := n5;have NB379_378 := n6;clear n0 n1 n2 n3 n4 n5 n6;clear hb hbox hg) | ((with_reducible refine gate_dst (N := 3) rfl ?_);refine bX_ 3 (cs := #[.int .i64 0,.slice none 0 0,.slice none 0 0,.int .i64 0]) (t := 123) ?_;intro gb380 hg w6 hbox hb;have n0 := aM_ (nB_ BK378.out hb);have n1 := aM_ (nB_ BK379.out hb);have n2 := aM_ (sT_ HB.out hb);have n3 := aM_ (hbox);have n4 := aM_ (sZ_ hg HB.out);have n5 := aM_ (sZ_ hg HB.out);have n6 := aM_ (nL_ hg BK378.out);have n7 := aM_ (nG_ hg BK378.out);have n8 := aM_ (nL_ hg BK379.out);have n9 := aM_ (nG_ hg BK379.out);clear BK378;clear BK379;clear HB;have BK378 := n0;have BK379 := n1;have HB := n2;have BK380 := n3;have GW380 := n4;have GE380 := n5;have NB378_380 := n6;have NB380_378 := n7;have NB379_380 := n8;have NB380_379 := n9;clear n0 n1 n2 n3 n4 n5 n6 n7 n8 n9;clear hb hbox hg;have hnb7 := NB378_379.out;have hnc7 := NB379_378.out;have hnb8 := NB378_380.out;have hnc8 := NB380_378.out;obtain ⟨hcz9_0,hcz9_1,hcz9_2,hcz9_3,hfz9_0,hfz9_1,hfz9_2,hfz9_3⟩ := bR4_ BK378.out;have hnb10 := NB380_379.out;have hnc10 := NB379_380.out;obtain ⟨hcz11_0,hcz11_1,hcz11_2,hcz11_3,hfz11_0,hfz11_1,hfz11_2,hfz11_3⟩ := bR4_ BK380.out) | ((with_reducible refine gate_callee (f := 61) rfl ?_);refine gL_ (some 9) Try.func61 #[.slice A0_1 l0_1.length c0_1] ?_;(with_reducible refine (laws_toIntS.calls k _ _ l0_1 t381 _ ?side1 ?side2 A2.out).mono ?_);(case side1 => exact Kd.C_below HR0_1.out (gB_ HB.out));(case side2 => exact HC0_1.out);rintro e w12 ⟨v382,rfl,ho0,hb⟩;refine ⟨_,rfl,?_⟩;have n0 := aM_ (Kd.R_lower ho0 (below_size (gB_ HB.out)));have n1 := aM_ (nBf_ BK378.out hb);have n2 := aM_ (nBf_ BK379.out hb);have n3 := aM_ (blk_below (g := gb380) (o := .cells #[.int .i64 a0_0,.slice none 0 0,.slice none 0 0,.int .i64 0] 123 (0,0)) (by (with_reducible repeat (first | refine bN_ ?_ _ | refine bD_ ?_ | refine bA_ ?_ _));refine blk_put (cs := #[.int .i64 0,.slice none 0 0,.slice none 0 0,.int .i64 0]) ?_ 0 _ rfl;exact rW_ BK380.out) hb);have n4 := aM_ (sT_ HB.out hb);clear BK378;clear BK379;clear BK380;clear HB;have HO383 := n0;have BK378 := n1;have BK379 := n2;have BK380 := n3;have HB := n4;clear n0 n1 n2 n3 n4;(try clear ho0);obtain ⟨Ao13,co13,eo13⟩ := Kd.R_slice HO383.out;subst eo13;obtain ⟨hcz14_0,hcz14_1,hcz14_2,hcz14_3,hfz14_0,hfz14_1,hfz14_2,hfz14_3⟩ := bR4_ BK380.out;obtain ⟨hcz15_0,hcz15_1,hcz15_2,hcz15_3,hfz15_0,hfz15_1,hfz15_2,hfz15_3⟩ := bR4_ BK378.out) | ((with_reducible refine gate_callee (f := 61) rfl ?_);refine gL_ (some 13) Try.func61 #[.slice A0_2 l0_2.length c0_2] ?_;(with_reducible refine (laws_toIntS.calls k _ _ l0_2 t384 _ ?side1 ?side2 A3.out).mono ?_);(case side1 => exact Kd.C_below HR0_2.out (gB_ HB.out));(case side2 => exact HC0_2.out);rintro e w16 ⟨v385,rfl,ho0,hb⟩;refine ⟨_,rfl,?_⟩;have n0 := aM_ (Kd.R_elder' (by (with_reducible repeat (first | apply rA_ | apply rN_ | apply rD_));exact (Kd.R_mono (Kd.R_far (p := ⟨gb380,1,none⟩) (Kd.R_types HO383.out BK380.out (by decide)) (fun _ hk => hk.2) (.slice Ao13 t381.length co13)) (fun _ h_ => h_.1))) (Kd.R_base ho0) hb);have n1 := aM_ (Kd.R_lower (Kd.R_new' ho0 (Kd.R_lt (by (with_reducible repeat (first | apply rA_ | apply rN_ | apply rD_));exact (Kd.R_mono (Kd.R_far (p := ⟨gb380,1,none⟩) (Kd.R_types HO383.out BK380.out (by decide)) (fun _ hk => hk.2) (.slice Ao13 t381.length co13)) (fun _ h_ => h_.1))))) (below_size (gB_ HB.out)));have n2 := aM_ (nBf_ BK378.out hb);have n3 := aM_ (nBf_ BK379.out hb);have n4 := aM_ (blk_below (g := gb380) (o := .cells #[.int .i64 a0_0,.slice Ao13 t381.length co13,.slice none 0 0,.int .i64 0] 123 (0,0)) (by (with_reducible repeat (first | refine bN_ ?_ _ | refine bD_ ?_ | refine bA_ ?_ _));refine blk_put (cs := #[.int .i64 a0_0,.slice none 0 0,.slice none 0 0,.int .i64 0]) ?_ 1 _ rfl;exact rW_ BK380.out) hb);have n5 := aM_ (sT_ HB.out hb);clear HO383;clear BK378;clear BK379;clear BK380;clear HB;have HO383 := n0;have HO386 := n1;have BK378 := n2;have BK379 := n3;have BK380 := n4;have HB := n5;clear n0 n1 n2 n3 n4 n5;(try clear ho0);obtain ⟨Ao17,co17,eo17⟩ := Kd.R_slice HO386.out;subst eo17;obtain ⟨hcz18_0,hcz18_1,hcz18_2,hcz18_3,hfz18_0,hfz18_1,hfz18_2,hfz18_3⟩ := bR4_ BK380.out;obtain ⟨hcz19_0,hcz19_1,hcz19_2,hcz19_3,hfz19_0,hfz19_1,hfz19_2,hfz19_3⟩ := bR4_ BK378.out;obtain ⟨hcz20_0,hcz20_1,hcz20_2,hcz20_3,hfz20_0,hfz20_1,hfz20_2,hfz20_3⟩ := bR4_ BK379.out))
 refine bodyPost_ret (results_cell_row rfl _ _ gb379 123 #[.int .i64 a0_0,.slice Ao13 t381.length co13,.slice Ao17 t384.length co17,.int .i64 a0_3] (0,0) _ rfl (by (with_reducible repeat (first | refine bN_ ?_ _ | refine bD_ ?_ | refine bA_ ?_ _));refine blk_put (cs := #[.int .i64 a0_0,.slice Ao13 t381.length co13,.slice Ao17 t384.length co17,.int .i64 0]) ?_ 3 _ rfl;refine blk_put (cs := #[.int .i64 a0_0,.slice Ao13 t381.length co13,.slice none 0 0,.int .i64 0]) ?_ 2 _ rfl;refine blk_put (cs := #[.int .i64 a0_0,.slice none 0 0,.slice none 0 0,.int .i64 0]) ?_ 1 _ rfl;refine blk_put (cs := #[.int .i64 0,.slice none 0 0,.slice none 0 0,.int .i64 0]) ?_ 0 _ rfl;exact rWf_ BK379.out) Try.underlying123 rfl (by kernel_rfl)) rfl ?_
 exact ⟨_,_,fR_,by (with_reducible repeat (first | apply rA_ | apply rN_ | apply rD_));exact Kd.R_mono (Kd.R_far (p := ⟨gb379,3,none⟩) (Kd.R_far (p := ⟨gb379,2,none⟩) (Kd.R_far (p := ⟨gb379,1,none⟩) (Kd.R_far (p := ⟨gb379,0,none⟩) (Kd.R_far (p := ⟨gb380,3,none⟩) (Kd.R_far (p := ⟨gb380,2,none⟩) (Kd.R_types (Kd.R_types HO383.out BK380.out (by decide)) BK379.out (by decide)) (fun _ hk => hk.1.2) (.slice Ao17 t384.length co17)) (fun _ hk => hk.1.2) (.int .i64 a0_3)) (fun _ hk => hk.2) (.int .i64 a0_0)) (fun _ hk => hk.2) (.slice Ao13 t381.length co13)) (fun _ hk => hk.2) (.slice Ao17 t384.length co17)) (fun _ hk => hk.2) (.int .i64 a0_3)) (fun _ hk => hk.1.1.2),by (with_reducible repeat (first | apply rA_ | apply rN_ | apply rD_));exact Kd.R_mono (Kd.R_far (p := ⟨gb379,3,none⟩) (Kd.R_far (p := ⟨gb379,2,none⟩) (Kd.R_far (p := ⟨gb379,1,none⟩) (Kd.R_far (p := ⟨gb379,0,none⟩) (Kd.R_far (p := ⟨gb380,3,none⟩) (Kd.R_far (p := ⟨gb380,2,none⟩) (Kd.R_types (Kd.R_types HO386.out BK380.out (by decide)) BK379.out (by decide)) (fun _ hk => hk.1.2) (.slice Ao17 t384.length co17)) (fun _ hk => hk.1.2) (.int .i64 a0_3)) (fun _ hk => hk.2) (.int .i64 a0_0)) (fun _ hk => hk.2) (.slice Ao13 t381.length co13)) (fun _ hk => hk.2) (.slice Ao17 t384.length co17)) (fun _ hk => hk.2) (.int .i64 a0_3)) (fun _ hk => hk.1.1.2),gB_ HB.out⟩
def laws_toCoreS.l0 : Nat → List (S194) → List (S123) → Int → Option ((List (S123)))
  | 0,_,_,_ => none
  | k + 1,x0,x3,x4 => if x4 < (x0.length : Int) then (if 0 ≤ x4 then ((laws_toCore.f k ((rd_T194 x0 x4).f0) ((rd_T194 x0 x4).f1) ((rd_T194 x0 x4).f2) ((rd_T194 x0 x4).f3)).bind fun bt391 => (if x4 < (x3.length : Int) then (laws_toCoreS.l0 k x0 (x3.set (x4 : Int).toNat (⟨bt391.1,bt391.2.1,bt391.2.2.1,bt391.2.2.2⟩ : S123)) (wrap64 (x4 + 1))) else (none))) else (none)) else (some x3)
def laws_toCoreS.f (k : Nat) (l0 : List (S194)) : Option ((List (S123))) := if 0 ≤ (l0.length : Int) then (if ((l0.length : Int) : Int).toNat ≤ 4398046511104 then (laws_toCoreS.l0 k l0 (List.replicate ((l0.length : Int) : Int).toNat z123) 0) else (none)) else (none)
set_option maxHeartbeats 8000000 in
set_option maxRecDepth 100000 in
theorem laws_toCoreS.calls (k : Nat) (A0 : Option Addr) (c0 : Nat) (l0 : List (S194)) (r : List (S123)) (w : World) (hr0 : Kd.C k194 w A0 l0.length l0) (hc0 : l0.length ≤ c0) (h : laws_toCoreS.f k l0 = some r) :
  Calls Try.prog 104 #[.slice A0 l0.length c0] w fun e w' => ∃ v0_ : Value,e = .returned (v0_) ∧ Kd.S k123 123 w' w.heap.size (fun _ => True) v0_ r ∧ Below w.heap.size w w' := by
 have hu194 := Try.underlying194
 have hu123 := Try.underlying123
 have HR0 := aM_ hr0
 have HC0 := aM_ hc0
 clear hr0 hc0
 have HB := aM_ (Below.refl w.heap.size w)
 have H : (if 0 ≤ (l0.length : Int) then (if ((l0.length : Int) : Int).toNat ≤ 4398046511104 then (laws_toCoreS.l0 k l0 (List.replicate ((l0.length : Int) : Int).toNat z123) 0) else (none)) else (none)) = some r := h
 clear h
 by_cases c2 : 0 ≤ (l0.length : Int)
 ·rw [if_pos c2] at H
  have c2b0 := eq_true c2
  have c2b1 : decide (0 ≤ (l0.length : Int)) = true := decide_eq_true c2
  clear c2
  by_cases c3 : ((l0.length : Int) : Int).toNat ≤ 4398046511104
  ·rw [if_pos c3] at H
   have c3b0 := eq_true c3
   have c3b1 : decide (((l0.length : Int) : Int).toNat ≤ 4398046511104) = true := decide_eq_true c3
   clear c3
   obtain ⟨y387,hy387⟩ : ∃ y_ : List (S123),y_ = (List.replicate ((l0.length : Int) : Int).toNat z123) := ⟨_,rfl⟩
   replace H : (laws_toCoreS.l0 k l0 y387 0) = some r := by first | (rw [hy387];with_reducible exact H) | (have H2_ := (Option.bind_some _ _).symm.trans H;rw [hy387];with_reducible exact H2_) | (have H2_ := (Option.bind_some _ _).symm.trans H;with_reducible exact H2_) | with_reducible exact H | (rw [hy387];exact H) | exact H
   have Ny387 := aM_ hy387
   clear hy387
   have H' := aM_ H
   clear H
   go_enter Try.func104,Try.ntmps104
   go_wp2_with (first | ((with_reducible refine gate_dst (N := 7) rfl ?_);refine Kd.S_make k123 _ 123 rfl (N := 7) rfl 54 _ _ rfl (l0.length : Int) rfl rfl Try.underlying54 (.agg #[(.int .i64 0),(.slice none 0 0),(.slice none 0 0),(.int .i64 0)]) 64 info123 rfl (by decide) (by omega) z123 (ok := fun _ => True) (okp := fun _ => True) (k123_mkM _ _ _ z123 (Kd.R_nil _ _ _ _ _) (Kd.R_nil _ _ _ _ _)) (fun _ hk => hk) trivial (of_decide_eq_true (by first | (with_reducible assumption) | assumption)) (Nat.le_trans (Nat.mul_le_mul_right _ (of_decide_eq_true (by first | (with_reducible assumption) | assumption) : (l0.length : Int).toNat ≤ 4398046511104)) (by omega)) (Below.refl _ _) (Nat.le_refl _) ?_;intro v388 w4 ho5 hb hg_ hnew_;clear hg_ hnew_;(first | rw [← Ny387.out] at ho5 | (simp only [Int.reduceToNat] at ho5;rw [← Ny387.out] at ho5));have n0 := aM_ (Kd.S_lower ho5 (below_size (gB_ HB.out)));have n1 := aM_ (sT_ HB.out hb);clear HB;have HO389 := n0;have HB := n1;clear n0 n1;clear hb ho5))
   go_loopg [4] k (fun kq v4 w' => ∃ (x3_1 : List (S123)) (x4_1 : Int),v4 = .int .i64 x4_1 ∧ Aside0 (laws_toCoreS.l0 kq l0 x3_1 x4_1 = some r) ∧ Aside0 (kq ≤ k) ∧ Aside0 (Kd.S k123 123 w' w.heap.size (fun _ => True) v388 x3_1) ∧ Aside0 (Below w.heap.size w w'))
   case atStart => exact ⟨(y387),(0),(by first | rfl | (simp;done) | (simp [*];done)),H',⟨Nat.le_refl _⟩,⟨by (with_reducible repeat (first | apply Kd.S_alloc | apply Kd.S_drewN | apply Kd.S_drew));exact HO389.out⟩,⟨gW_ HB.out⟩⟩
   case round =>
    clear H'
    try clear c1
    try clear c2
    try clear c2b0
    try clear c2b1
    try clear p2
    try clear c3
    try clear c3b0
    try clear c3b1
    obtain ⟨x3_1,x4_1,rfl,HA,HK1,HO_3,HB⟩ := hrel
    cases gk with
    | zero => exact absurd HA.out (by simp [laws_toCoreS.l0])
    | succ k1 =>
     have H := HA.out
     clear HA
     simp only [laws_toCoreS.l0] at H
     by_cases c6 : x4_1 < (l0.length : Int)
     ·rw [if_pos c6] at H
      have c6b0 : decide (x4_1 < (l0.length : Int)) = true := decide_eq_true c6
      clear c6
      by_cases c7 : 0 ≤ x4_1
      ·rw [if_pos c7] at H
       have c7b0 : decide (0 ≤ x4_1) = true := decide_eq_true c7
       clear c7
       replace H := Option.bind_eq_some_iff.mp H
       obtain ⟨⟨t391,t392,t395,t398⟩,A80,H⟩ := H
       replace H : (if x4_1 < (x3_1.length : Int) then (laws_toCoreS.l0 k1 l0 (x3_1.set (x4_1 : Int).toNat (⟨t391,t392,t395,t398⟩ : S123)) (wrap64 (x4_1 + 1))) else (none)) = some r := H
       have A8 := aM_ A80
       clear A80
       by_cases c9 : x4_1 < (x3_1.length : Int)
       ·rw [if_pos c9] at H
        have c9b0 : decide (x4_1 < (x3_1.length : Int)) = true := decide_eq_true c9
        clear c9
        obtain ⟨y399,hy399⟩ : ∃ y_ : List (S123),y_ = (x3_1.set (x4_1 : Int).toNat (⟨t391,t392,t395,t398⟩ : S123)) := ⟨_,rfl⟩
        replace H : (laws_toCoreS.l0 k1 l0 y399 (wrap64 (x4_1 + 1))) = some r := by first | (rw [hy399];with_reducible exact H) | (have H2_ := (Option.bind_some _ _).symm.trans H;rw [hy399];with_reducible exact H2_) | (have H2_ := (Option.bind_some _ _).symm.trans H;with_reducible exact H2_) | with_reducible exact H | (rw [hy399];exact H) | exact H
        have Ny399 := aM_ hy399
        clear hy399
        have H' := aM_ H
        clear H
        have p390 : 0 ≤ (x4_1 : Int) := of_decide_eq_true (by first | (with_reducible assumption) | assumption)
        have q390 : x4_1 < (l0.length : Int) := of_decide_eq_true (by first | (with_reducible assumption) | assumption)
        obtain ⟨ad390,A390_1,c390_1,A390_2,c390_2,e390,hx390_0,hx390_1,hx390_2,hx390_3,hl390_1,hi390_1,hl390_2,hi390_2⟩ := at_T194 HR0.out x4_1 p390 q390
        cases e390
        replace hx390_0 := cB_ HB.out hx390_0
        replace hx390_1 := cB_ HB.out hx390_1
        replace hx390_2 := cB_ HB.out hx390_2
        replace hx390_3 := cB_ HB.out hx390_3
        have HR390_1 := aM_ hi390_1
        have HC390_1 := aM_ hl390_1
        clear hi390_1 hl390_1
        have HR390_2 := aM_ hi390_2
        have HC390_2 := aM_ hl390_2
        clear hi390_2 hl390_2
        replace p390 := eq_true p390
        replace q390 := eq_true q390
        go_wp2_with (first | ((with_reducible refine gate_callee (f := 154) rfl ?_);refine gL_ (some 20) Try.func154 #[.agg #[.int .i64 ((rd_T194 l0 x4_1).f0),.slice A390_1 ((rd_T194 l0 x4_1).f1).length c390_1,.slice A390_2 ((rd_T194 l0 x4_1).f2).length c390_2,.int .i64 ((rd_T194 l0 x4_1).f3)]] ?_;(with_reducible refine (laws_toCore.calls k1 ((rd_T194 l0 x4_1).f0) _ _ ((rd_T194 l0 x4_1).f1) _ _ ((rd_T194 l0 x4_1).f2) ((rd_T194 l0 x4_1).f3) t391 t392 t395 t398 _ ?side1 ?side2 ?side3 ?side4 A8.out).mono ?_);(case side1 => exact cS_ (Kd.C_below HR390_1.out HB.out));(case side2 => exact HC390_1.out);(case side3 => exact cS_ (Kd.C_below HR390_2.out HB.out));(case side4 => exact HC390_2.out);rintro e w11 ⟨v393,v396,rfl,ho0,ho1,hb⟩;refine ⟨_,rfl,?_⟩;have n0 := aM_ (Kd.S_mono (Kd.S_told (Kd.S_told (Kd.S_old (by (with_reducible repeat (first | apply Kd.S_alloc | apply Kd.S_drewN | apply Kd.S_drew));exact HO_3.out) hb) (Kd.R_base ho0)) (Kd.R_base ho1)) (fun _ h_ => h_.1));have n1 := aM_ (Kd.R_lower ho0 (below_size (gB_ HB.out)));have n2 := aM_ (Kd.R_lower ho1 (below_size (gB_ HB.out)));have n3 := aM_ (sT_ HB.out hb);clear HO_3;clear HB;have HO_3 := n0;have HO394 := n1;have HO397 := n2;have HB := n3;clear n0 n1 n2 n3;(try clear ho0);(try clear ho1);have p10 : 0 ≤ (x4_1 : Int) := of_decide_eq_true (by first | (with_reducible assumption) | assumption);have q10 : (x4_1 : Int) < ((x3_1.length : Int) : Int) := of_decide_eq_true (by first | (with_reducible assumption) | assumption);obtain ⟨go10,co10,eo10,gb10,gl10,cl10,HG10⟩ := Kd.S_form HO_3.out (by omega);(first | cases eo10 | (injection eo10 with ea_ en_ ec_;(first | subst ea_ | (injection ea_ with ea_;subst ea_));subst ec_;clear en_));have GB10 := aM_ gb10;have GG10 := aM_ HG10;clear gb10 gl10 HG10;obtain ⟨_,ce10,hcl10,hM10,hcc10,hfr10,_,_⟩ := Kd.S_elem HO_3.out z123 (x4_1 : Int) p10 q10;obtain ⟨ve10_1,ve10_2,rfl,ge10_1,ge10_2⟩ := k123_openM hM10;have hx10_0 : w11.cell? ⟨go10,(x4_1 : Int).toNat * 4,none⟩ = some (.int .i64 ((rd_T123 x3_1 x4_1).f0)) := hcc10 0 _ rfl;have hx10_1 : w11.cell? ⟨go10,(x4_1 : Int).toNat * 4 + 1,none⟩ = some (ve10_1) := hcc10 1 _ rfl;have hx10_2 : w11.cell? ⟨go10,(x4_1 : Int).toNat * 4 + 2,none⟩ = some (ve10_2) := hcc10 2 _ rfl;have hx10_3 : w11.cell? ⟨go10,(x4_1 : Int).toNat * 4 + 3,none⟩ = some (.int .i64 ((rd_T123 x3_1 x4_1).f3)) := hcc10 3 _ rfl;have hf10_0 : w11.frozen? ⟨go10,(x4_1 : Int).toNat * 4,none⟩ = false := hfr10 0;have hf10_1 : w11.frozen? ⟨go10,(x4_1 : Int).toNat * 4 + 1,none⟩ = false := hfr10 1;have hf10_2 : w11.frozen? ⟨go10,(x4_1 : Int).toNat * 4 + 2,none⟩ = false := hfr10 2;have hf10_3 : w11.frozen? ⟨go10,(x4_1 : Int).toNat * 4 + 3,none⟩ = false := hfr10 3;(try clear hcl10);(try clear hcc10);(try clear hfr10);(try clear hM10);replace p10 := eq_true p10;replace q10 := eq_true q10;have n_ := aM_ (Kd.S_mono (ok' := (fun k_ => some k_ ≠ (v393 : Value).ownBlock ∧ some k_ ≠ (v396 : Value).ownBlock)) HO_3.out (fun k_ hk => ⟨hk.1.2,hk.2⟩));clear HO_3;have HO_3 := n_;clear n_;have HX12 := aM_ (show Kd.S k123 123 w11 w.heap.size (fun k_ => ((fun _ => True)) k_ ∧ ¬ ((fun k_ => some k_ = (v393 : Value).ownBlock ∨ some k_ = (v396 : Value).ownBlock)) k_) (.slice (some ⟨go10,0,none⟩) x3_1.length co10) x3_1 from (by (with_reducible repeat (first | apply Kd.S_alloc | apply Kd.S_drewN | apply Kd.S_drew));exact Kd.S_mono HO_3.out (fun k_ hk => ⟨trivial,fun e_ => e_.elim (fun h_ => hk.1 h_) (fun h_ => hk.2 h_)⟩)));obtain ⟨oki12,ce12,hcl12,hM12,hcc12,hfr12,hoki12,hH12⟩ := Kd.S_elem HX12.out z123 (x4_1 : Int) (of_decide_eq_true (by first | (with_reducible assumption) | assumption)) (by have h_ : (x4_1 : Int) < ((x3_1.length : Int) : Int) := of_decide_eq_true (by first | (with_reducible assumption) | assumption);first | exact h_ | (have e_ := (Kd.S_reads' HO_3.out).1;omega) | simpa using h_);obtain ⟨ve12_1,ve12_2,rfl,ge12_1,ge12_2⟩ := k123_openM hM12;have HP12 := Kd.S_seg hH12 (of_decide_eq_true (by first | (with_reducible assumption) | assumption)) (by have h_ : (x4_1 : Int) < ((x3_1.length : Int) : Int) := of_decide_eq_true (by first | (with_reducible assumption) | assumption);first | exact h_ | (have e_ := (Kd.S_reads' HO_3.out).1;omega) | simpa using h_) (seg := [.int .i64 t391,v393,v396,.int .i64 t398]) (j := 0) (show 4 ≤ 4 from by decide) (x' := (⟨t391,t392,t395,t398⟩ : S123)) (k123_mkM _ _ _ (⟨t391,t392,t395,t398⟩ : S123) (Kd.R_mono (Kd.R_tight rfl (Kd.R_mono (ok' := fun k_ => ((fun _ => True)) k_ ∧ k_ ≠ go10) (Kd.R_apart' (HO394.out) (Kd.S_typed HO_3.out) (by decide)) (fun k_ hk => ⟨trivial,fun e_ => (hk.2) (by rw [e_];rfl)⟩))) (fun _ h_ => Or.inr (Or.inl h_))) (Kd.R_mono (Kd.R_tight rfl (Kd.R_mono (ok' := fun k_ => ((fun _ => True)) k_ ∧ k_ ≠ go10) (Kd.R_apart' (HO397.out) (Kd.S_typed HO_3.out) (by decide)) (fun k_ hk => ⟨trivial,fun e_ => (hk.2) (by rw [e_];rfl)⟩))) (fun _ h_ => Or.inr (Or.inr (h_))))) (fun _ hk => hk) (fun k_ hk_ => hk_.elim (fun h_ => ((Kd.R_mono (ok' := fun k_ => ((fun _ => True)) k_ ∧ k_ ≠ go10) (Kd.R_apart' (HO394.out) (Kd.S_typed HO_3.out) (by decide)) (fun k_ hk => ⟨trivial,fun e_ => (hk.2) (by rw [e_];rfl)⟩))).1 k_ h_.symm) (fun h_ => ((Kd.R_mono (ok' := fun k_ => ((fun _ => True)) k_ ∧ k_ ≠ go10) (Kd.R_apart' (HO397.out) (Kd.S_typed HO_3.out) (by decide)) (fun k_ hk => ⟨trivial,fun e_ => (hk.2) (by rw [e_];rfl)⟩))).1 k_ h_.symm));have hx12_0 := hcc12 0 _ rfl;(try simp only [show (k123).sz = 4 from rfl,Nat.mul_one,Nat.add_zero] at hx12_0);have hf12_0 := hfr12 0;(try simp only [show (k123).sz = 4 from rfl,Nat.mul_one,Nat.add_zero] at hf12_0);have hx12_1 := hcc12 1 _ rfl;(try simp only [show (k123).sz = 4 from rfl,Nat.mul_one,Nat.add_zero] at hx12_1);have hf12_1 := hfr12 1;(try simp only [show (k123).sz = 4 from rfl,Nat.mul_one,Nat.add_zero] at hf12_1);have hx12_2 := hcc12 2 _ rfl;(try simp only [show (k123).sz = 4 from rfl,Nat.mul_one,Nat.add_zero] at hx12_2);have hf12_2 := hfr12 2;(try simp only [show (k123).sz = 4 from rfl,Nat.mul_one,Nat.add_zero] at hf12_2);have hx12_3 := hcc12 3 _ rfl;(try simp only [show (k123).sz = 4 from rfl,Nat.mul_one,Nat.add_zero] at hx12_3);have hf12_3 := hfr12 3;(try simp only [show (k123).sz = 4 from rfl,Nat.mul_one,Nat.add_zero] at hf12_3);(try clear hcl12);(try clear hcc12);(try clear hfr12);(try clear hM12);(try clear hoki12);(try clear hH12)) | ((with_reducible refine gate_store (t := 123) (p := 21) rfl ?_);refine store_event (t := 123) (p := 21) (v := ?vo_w13) (w1 := ((((w11.setCell ⟨go10,(x4_1 : Int).toNat * 4,none⟩ (.int .i64 t391)).setCell ⟨go10,(x4_1 : Int).toNat * 4 + 1,none⟩ (v393)).setCell ⟨go10,(x4_1 : Int).toNat * 4 + 2,none⟩ (v396)).setCell ⟨go10,(x4_1 : Int).toNat * 4 + 3,none⟩ (.int .i64 t398))) ?hg ?ho ?hn ?hr ?_;(case ho => rfl);(case hg => rfl);(case hn => rfl);(case hr => first | (go_simp;done) | (go_simp;rfl) | (obtain ⟨_,_,e_⟩ := Kd.R_slice HO394.out;rw [e_];first | (go_simp;done) | (go_simp;rfl)) | (obtain ⟨_,_,e_⟩ := Kd.S_slice HO394.out;rw [e_];first | (go_simp;done) | (go_simp;rfl)) | (obtain ⟨_,_,e_⟩ := Kd.Q_slice HO394.out;rw [e_];first | (go_simp;done) | (go_simp;rfl)) | (obtain ⟨_,_,e_⟩ := Kd.N_slice HO394.out;rw [e_];first | (go_simp;done) | (go_simp;rfl)) | (obtain ⟨_,_,e_⟩ := Kd.R_slice HO397.out;rw [e_];first | (go_simp;done) | (go_simp;rfl)) | (obtain ⟨_,_,e_⟩ := Kd.S_slice HO397.out;rw [e_];first | (go_simp;done) | (go_simp;rfl)) | (obtain ⟨_,_,e_⟩ := Kd.Q_slice HO397.out;rw [e_];first | (go_simp;done) | (go_simp;rfl)) | (obtain ⟨_,_,e_⟩ := Kd.N_slice HO397.out;rw [e_];first | (go_simp;done) | (go_simp;rfl)) | (obtain ⟨_,_,e393_⟩ := Kd.R_slice HO394.out;rw [e393_];obtain ⟨_,_,e396_⟩ := Kd.R_slice HO397.out;rw [e396_];first | (go_simp;done) | (go_simp;rfl)));intro w13 hw;have hg : w11.grownBy w13 (some go10) := (by rw [hw];exact HP12.2);have hp_ : Kd.S k123 123 w13 w.heap.size (fun _ => True) (.slice (some ⟨go10,0,none⟩) x3_1.length co10) y399 := (by rw [hw,Ny399.out];exact HP12.1);clear HP12;have n0 := aM_ (hp_);have n1 := aM_ ((by rw [hw];exact below_set (below_set (below_set (below_set (HB.out) GB10.out) GB10.out) GB10.out) GB10.out : Below w.heap.size w w13));clear HO_3;clear HB;clear HO394;clear HO397;have HO_3 := n0;have HB := n1;clear n0 n1;clear hg hw hp_))
        go_roundg k1
        case measure => have := HK1.out;omega
        case rel => exact ⟨(y399),(wrap64 (x4_1 + 1)),(by first | rfl | (simp;done) | (simp [*];done)),H',⟨by have := HK1.out;omega⟩,⟨by (with_reducible repeat (first | apply Kd.S_alloc | apply Kd.S_drewN | apply Kd.S_drew));exact HO_3.out⟩,⟨gW_ HB.out⟩⟩
       ·rw [if_neg c9] at H
        exact absurd H (by simp)
      ·rw [if_neg c7] at H
       exact absurd H (by simp)
     ·rw [if_neg c6] at H
      have c6b0 : decide (x4_1 < (l0.length : Int)) = false := decide_eq_false c6
      clear c6
      obtain rfl := Option.some.inj H
      go_wp2
      go_ret
      exact ⟨_,fR_,by (with_reducible repeat (first | apply Kd.S_alloc | apply Kd.S_drewN | apply Kd.S_drew));exact HO_3.out,gB_ HB.out⟩
  ·rw [if_neg c3] at H
   exact absurd H (by simp)
 ·rw [if_neg c2] at H
  exact absurd H (by simp)
def laws_toWrite.f (k : Nat) (a0_0 : Int) (l0_1 : List Int) : Option (Int × List Int) := (laws_toIntS.f k l0_1).bind fun t403 => (some (a0_0,t403))
set_option maxHeartbeats 8000000 in
set_option maxRecDepth 100000 in
theorem laws_toWrite.calls (k : Nat) (a0_0 : Int) (A0_1 : Option Addr) (c0_1 : Nat) (l0_1 : List Int) (r1 : Int) (r2 : List Int) (w : World) (hr0_1 : Kd.C (Kd.int .i64) w A0_1 l0_1.length l0_1) (hc0_1 : l0_1.length ≤ c0_1) (h : laws_toWrite.f k a0_0 l0_1 = some (r1,r2)) :
  Calls Try.prog 194 #[.agg #[.int .i64 a0_0,.slice A0_1 l0_1.length c0_1]] w fun e w' => ∃ v1_ : Value,e = .returned (.agg #[.int .i64 r1,v1_]) ∧ Kd.R (Kd.int .i64) 3 w' w.heap.size (fun _ => True) v1_ r2 ∧ Below w.heap.size w w' := by
 have hu238 := Try.underlying238
 have hu170 := Try.underlying170
 have HR0_1 := aM_ hr0_1
 have HC0_1 := aM_ hc0_1
 clear hr0_1 hc0_1
 have HB := aM_ (Below.refl w.heap.size w)
 have H : ((laws_toIntS.f k l0_1).bind fun t403 => (some (a0_0,t403))) = some (r1,r2) := h
 clear h
 replace H := Option.bind_eq_some_iff.mp H
 obtain ⟨t403,A20,H⟩ := H
 replace H : (some (a0_0,t403)) = some (r1,r2) := H
 have A2 := aM_ A20
 clear A20
 simp only [Option.some.injEq,Prod.mk.injEq] at H
 obtain ⟨rfl,rfl⟩ := H
 go_enter Try.func194,Try.ntmps194
 go_wp2_with (first | ((with_reducible refine gate_dst (N := 1) rfl ?_);refine bX_ 1 (cs := #[.int .i64 a0_0,.slice A0_1 l0_1.length c0_1]) (t := 238) ?_;intro gb400 hg w3 hbox hb;have n0 := aM_ (sT_ HB.out hb);have n1 := aM_ (hbox);have n2 := aM_ (sZ_ hg HB.out);have n3 := aM_ (sZ_ hg HB.out);clear HB;have HB := n0;have BK400 := n1;have GW400 := n2;have GE400 := n3;clear n0 n1 n2 n3;clear hb hbox hg) | ((with_reducible refine gate_dst (N := 2) rfl ?_);refine bX_ 2 (cs := #[.int .i64 0,.slice none 0 0]) (t := 170) ?_;intro gb401 hg w4 hbox hb;have n0 := aM_ (nB_ BK400.out hb);have n1 := aM_ (sT_ HB.out hb);have n2 := aM_ (hbox);have n3 := aM_ (sZ_ hg HB.out);have n4 := aM_ (sZ_ hg HB.out);have n5 := aM_ (nL_ hg BK400.out);have n6 := aM_ (nG_ hg BK400.out);clear BK400;clear HB;have BK400 := n0;have HB := n1;have BK401 := n2;have GW401 := n3;have GE401 := n4;have NB400_401 := n5;have NB401_400 := n6;clear n0 n1 n2 n3 n4 n5 n6;clear hb hbox hg) | ((with_reducible refine gate_dst (N := 3) rfl ?_);refine bX_ 3 (cs := #[.int .i64 0,.slice none 0 0]) (t := 170) ?_;intro gb402 hg w5 hbox hb;have n0 := aM_ (nB_ BK400.out hb);have n1 := aM_ (nB_ BK401.out hb);have n2 := aM_ (sT_ HB.out hb);have n3 := aM_ (hbox);have n4 := aM_ (sZ_ hg HB.out);have n5 := aM_ (sZ_ hg HB.out);have n6 := aM_ (nL_ hg BK400.out);have n7 := aM_ (nG_ hg BK400.out);have n8 := aM_ (nL_ hg BK401.out);have n9 := aM_ (nG_ hg BK401.out);clear BK400;clear BK401;clear HB;have BK400 := n0;have BK401 := n1;have HB := n2;have BK402 := n3;have GW402 := n4;have GE402 := n5;have NB400_402 := n6;have NB402_400 := n7;have NB401_402 := n8;have NB402_401 := n9;clear n0 n1 n2 n3 n4 n5 n6 n7 n8 n9;clear hb hbox hg;have hnb6 := NB400_401.out;have hnc6 := NB401_400.out;have hnb7 := NB400_402.out;have hnc7 := NB402_400.out;obtain ⟨hcz8_0,hcz8_1,hfz8_0,hfz8_1⟩ := bR2_ BK400.out;have hnb9 := NB402_401.out;have hnc9 := NB401_402.out;obtain ⟨hcz10_0,hcz10_1,hfz10_0,hfz10_1⟩ := bR2_ BK402.out) | ((with_reducible refine gate_callee (f := 61) rfl ?_);refine gL_ (some 9) Try.func61 #[.slice A0_1 l0_1.length c0_1] ?_;(with_reducible refine (laws_toIntS.calls k _ _ l0_1 t403 _ ?side1 ?side2 A2.out).mono ?_);(case side1 => exact Kd.C_below HR0_1.out (gB_ HB.out));(case side2 => exact HC0_1.out);rintro e w11 ⟨v404,rfl,ho0,hb⟩;refine ⟨_,rfl,?_⟩;have n0 := aM_ (Kd.R_lower ho0 (below_size (gB_ HB.out)));have n1 := aM_ (nBf_ BK400.out hb);have n2 := aM_ (nBf_ BK401.out hb);have n3 := aM_ (blk_below (g := gb402) (o := .cells #[.int .i64 a0_0,.slice none 0 0] 170 (0,0)) (by (with_reducible repeat (first | refine bN_ ?_ _ | refine bD_ ?_ | refine bA_ ?_ _));refine blk_put (cs := #[.int .i64 0,.slice none 0 0]) ?_ 0 _ rfl;exact rW_ BK402.out) hb);have n4 := aM_ (sT_ HB.out hb);clear BK400;clear BK401;clear BK402;clear HB;have HO405 := n0;have BK400 := n1;have BK401 := n2;have BK402 := n3;have HB := n4;clear n0 n1 n2 n3 n4;(try clear ho0);obtain ⟨Ao12,co12,eo12⟩ := Kd.R_slice HO405.out;subst eo12;obtain ⟨hcz13_0,hcz13_1,hfz13_0,hfz13_1⟩ := bR2_ BK402.out;obtain ⟨hcz14_0,hcz14_1,hfz14_0,hfz14_1⟩ := bR2_ BK401.out))
 refine bodyPost_ret (results_cell_row rfl _ _ gb401 170 #[.int .i64 a0_0,.slice Ao12 t403.length co12] (0,0) _ rfl (by (with_reducible repeat (first | refine bN_ ?_ _ | refine bD_ ?_ | refine bA_ ?_ _));refine blk_put (cs := #[.int .i64 a0_0,.slice none 0 0]) ?_ 1 _ rfl;refine blk_put (cs := #[.int .i64 0,.slice none 0 0]) ?_ 0 _ rfl;exact rWf_ BK401.out) Try.underlying170 rfl (by kernel_rfl)) rfl ?_
 exact ⟨_,fR_,by (with_reducible repeat (first | apply rA_ | apply rN_ | apply rD_));exact Kd.R_mono (Kd.R_far (p := ⟨gb401,1,none⟩) (Kd.R_far (p := ⟨gb401,0,none⟩) (Kd.R_far (p := ⟨gb402,1,none⟩) (Kd.R_types (Kd.R_types HO405.out BK402.out (by decide)) BK401.out (by decide)) (fun _ hk => hk.1.2) (.slice Ao12 t403.length co12)) (fun _ hk => hk.2) (.int .i64 a0_0)) (fun _ hk => hk.2) (.slice Ao12 t403.length co12)) (fun _ hk => trivial),gB_ HB.out⟩
def laws_toWriteS.l0 : Nat → List (S238) → List (S170) → Int → Option ((List (S170)))
  | 0,_,_,_ => none
  | k + 1,x0,x3,x4 => if x4 < (x0.length : Int) then (if 0 ≤ x4 then ((laws_toWrite.f k ((rd_T238 x0 x4).f0) ((rd_T238 x0 x4).f1)).bind fun bt410 => (if x4 < (x3.length : Int) then (laws_toWriteS.l0 k x0 (x3.set (x4 : Int).toNat (⟨bt410.1,bt410.2⟩ : S170)) (wrap64 (x4 + 1))) else (none))) else (none)) else (some x3)
def laws_toWriteS.f (k : Nat) (l0 : List (S238)) : Option ((List (S170))) := if 0 ≤ (l0.length : Int) then (if ((l0.length : Int) : Int).toNat ≤ 8796093022208 then (laws_toWriteS.l0 k l0 (List.replicate ((l0.length : Int) : Int).toNat z170) 0) else (none)) else (none)
set_option maxHeartbeats 8000000 in
set_option maxRecDepth 100000 in
theorem laws_toWriteS.calls (k : Nat) (A0 : Option Addr) (c0 : Nat) (l0 : List (S238)) (r : List (S170)) (w : World) (hr0 : Kd.C k238 w A0 l0.length l0) (hc0 : l0.length ≤ c0) (h : laws_toWriteS.f k l0 = some r) :
  Calls Try.prog 176 #[.slice A0 l0.length c0] w fun e w' => ∃ v0_ : Value,e = .returned (v0_) ∧ Kd.S k170 170 w' w.heap.size (fun _ => True) v0_ r ∧ Below w.heap.size w w' := by
 have hu238 := Try.underlying238
 have hu170 := Try.underlying170
 have HR0 := aM_ hr0
 have HC0 := aM_ hc0
 clear hr0 hc0
 have HB := aM_ (Below.refl w.heap.size w)
 have H : (if 0 ≤ (l0.length : Int) then (if ((l0.length : Int) : Int).toNat ≤ 8796093022208 then (laws_toWriteS.l0 k l0 (List.replicate ((l0.length : Int) : Int).toNat z170) 0) else (none)) else (none)) = some r := h
 clear h
 by_cases c2 : 0 ≤ (l0.length : Int)
 ·rw [if_pos c2] at H
  have c2b0 := eq_true c2
  have c2b1 : decide (0 ≤ (l0.length : Int)) = true := decide_eq_true c2
  clear c2
  by_cases c3 : ((l0.length : Int) : Int).toNat ≤ 8796093022208
  ·rw [if_pos c3] at H
   have c3b0 := eq_true c3
   have c3b1 : decide (((l0.length : Int) : Int).toNat ≤ 8796093022208) = true := decide_eq_true c3
   clear c3
   obtain ⟨y406,hy406⟩ : ∃ y_ : List (S170),y_ = (List.replicate ((l0.length : Int) : Int).toNat z170) := ⟨_,rfl⟩
   replace H : (laws_toWriteS.l0 k l0 y406 0) = some r := by first | (rw [hy406];with_reducible exact H) | (have H2_ := (Option.bind_some _ _).symm.trans H;rw [hy406];with_reducible exact H2_) | (have H2_ := (Option.bind_some _ _).symm.trans H;with_reducible exact H2_) | with_reducible exact H | (rw [hy406];exact H) | exact H
   have Ny406 := aM_ hy406
   clear hy406
   have H' := aM_ H
   clear H
   go_enter Try.func176,Try.ntmps176
   go_wp2_with (first | ((with_reducible refine gate_dst (N := 7) rfl ?_);refine Kd.S_make k170 _ 170 rfl (N := 7) rfl 171 _ _ rfl (l0.length : Int) rfl rfl Try.underlying171 (.agg #[(.int .i64 0),(.slice none 0 0)]) 32 info170 rfl (by decide) (by omega) z170 (ok := fun _ => True) (okp := fun _ => True) (k170_mkM _ _ _ z170 (Kd.R_nil _ _ _ _ _)) (fun _ hk => hk) trivial (of_decide_eq_true (by first | (with_reducible assumption) | assumption)) (Nat.le_trans (Nat.mul_le_mul_right _ (of_decide_eq_true (by first | (with_reducible assumption) | assumption) : (l0.length : Int).toNat ≤ 8796093022208)) (by omega)) (Below.refl _ _) (Nat.le_refl _) ?_;intro v407 w4 ho5 hb hg_ hnew_;clear hg_ hnew_;(first | rw [← Ny406.out] at ho5 | (simp only [Int.reduceToNat] at ho5;rw [← Ny406.out] at ho5));have n0 := aM_ (Kd.S_lower ho5 (below_size (gB_ HB.out)));have n1 := aM_ (sT_ HB.out hb);clear HB;have HO408 := n0;have HB := n1;clear n0 n1;clear hb ho5))
   go_loopg [4] k (fun kq v4 w' => ∃ (x3_1 : List (S170)) (x4_1 : Int),v4 = .int .i64 x4_1 ∧ Aside0 (laws_toWriteS.l0 kq l0 x3_1 x4_1 = some r) ∧ Aside0 (kq ≤ k) ∧ Aside0 (Kd.S k170 170 w' w.heap.size (fun _ => True) v407 x3_1) ∧ Aside0 (Below w.heap.size w w'))
   case atStart => exact ⟨(y406),(0),(by first | rfl | (simp;done) | (simp [*];done)),H',⟨Nat.le_refl _⟩,⟨by (with_reducible repeat (first | apply Kd.S_alloc | apply Kd.S_drewN | apply Kd.S_drew));exact HO408.out⟩,⟨gW_ HB.out⟩⟩
   case round =>
    clear H'
    try clear c1
    try clear c2
    try clear c2b0
    try clear c2b1
    try clear p2
    try clear c3
    try clear c3b0
    try clear c3b1
    obtain ⟨x3_1,x4_1,rfl,HA,HK1,HO_3,HB⟩ := hrel
    cases gk with
    | zero => exact absurd HA.out (by simp [laws_toWriteS.l0])
    | succ k1 =>
     have H := HA.out
     clear HA
     simp only [laws_toWriteS.l0] at H
     by_cases c6 : x4_1 < (l0.length : Int)
     ·rw [if_pos c6] at H
      have c6b0 : decide (x4_1 < (l0.length : Int)) = true := decide_eq_true c6
      clear c6
      by_cases c7 : 0 ≤ x4_1
      ·rw [if_pos c7] at H
       have c7b0 : decide (0 ≤ x4_1) = true := decide_eq_true c7
       clear c7
       replace H := Option.bind_eq_some_iff.mp H
       obtain ⟨⟨t410,t411⟩,A80,H⟩ := H
       replace H : (if x4_1 < (x3_1.length : Int) then (laws_toWriteS.l0 k1 l0 (x3_1.set (x4_1 : Int).toNat (⟨t410,t411⟩ : S170)) (wrap64 (x4_1 + 1))) else (none)) = some r := H
       have A8 := aM_ A80
       clear A80
       by_cases c9 : x4_1 < (x3_1.length : Int)
       ·rw [if_pos c9] at H
        have c9b0 : decide (x4_1 < (x3_1.length : Int)) = true := decide_eq_true c9
        clear c9
        obtain ⟨y414,hy414⟩ : ∃ y_ : List (S170),y_ = (x3_1.set (x4_1 : Int).toNat (⟨t410,t411⟩ : S170)) := ⟨_,rfl⟩
        replace H : (laws_toWriteS.l0 k1 l0 y414 (wrap64 (x4_1 + 1))) = some r := by first | (rw [hy414];with_reducible exact H) | (have H2_ := (Option.bind_some _ _).symm.trans H;rw [hy414];with_reducible exact H2_) | (have H2_ := (Option.bind_some _ _).symm.trans H;with_reducible exact H2_) | with_reducible exact H | (rw [hy414];exact H) | exact H
        have Ny414 := aM_ hy414
        clear hy414
        have H' := aM_ H
        clear H
        have p409 : 0 ≤ (x4_1 : Int) := of_decide_eq_true (by first | (with_reducible assumption) | assumption)
        have q409 : x4_1 < (l0.length : Int) := of_decide_eq_true (by first | (with_reducible assumption) | assumption)
        obtain ⟨ad409,A409_1,c409_1,e409,hx409_0,hx409_1,hl409_1,hi409_1⟩ := at_T238 HR0.out x4_1 p409 q409
        cases e409
        replace hx409_0 := cB_ HB.out hx409_0
        replace hx409_1 := cB_ HB.out hx409_1
        have HR409_1 := aM_ hi409_1
        have HC409_1 := aM_ hl409_1
        clear hi409_1 hl409_1
        replace p409 := eq_true p409
        replace q409 := eq_true q409
        go_wp2_with (first | ((with_reducible refine gate_callee (f := 194) rfl ?_);refine gL_ (some 20) Try.func194 #[.agg #[.int .i64 ((rd_T238 l0 x4_1).f0),.slice A409_1 ((rd_T238 l0 x4_1).f1).length c409_1]] ?_;(with_reducible refine (laws_toWrite.calls k1 ((rd_T238 l0 x4_1).f0) _ _ ((rd_T238 l0 x4_1).f1) t410 t411 _ ?side1 ?side2 A8.out).mono ?_);(case side1 => exact cS_ (Kd.C_below HR409_1.out HB.out));(case side2 => exact HC409_1.out);rintro e w11 ⟨v412,rfl,ho0,hb⟩;refine ⟨_,rfl,?_⟩;have n0 := aM_ (Kd.S_elder' (by (with_reducible repeat (first | apply Kd.S_alloc | apply Kd.S_drewN | apply Kd.S_drew));exact HO_3.out) (Kd.R_base ho0) hb);have n1 := aM_ (Kd.R_lower ho0 (below_size (gB_ HB.out)));have n2 := aM_ (sT_ HB.out hb);clear HO_3;clear HB;have HO_3 := n0;have HO413 := n1;have HB := n2;clear n0 n1 n2;(try clear ho0);have p10 : 0 ≤ (x4_1 : Int) := of_decide_eq_true (by first | (with_reducible assumption) | assumption);have q10 : (x4_1 : Int) < ((x3_1.length : Int) : Int) := of_decide_eq_true (by first | (with_reducible assumption) | assumption);obtain ⟨go10,co10,eo10,gb10,gl10,cl10,HG10⟩ := Kd.S_form HO_3.out (by omega);(first | cases eo10 | (injection eo10 with ea_ en_ ec_;(first | subst ea_ | (injection ea_ with ea_;subst ea_));subst ec_;clear en_));have GB10 := aM_ gb10;have GG10 := aM_ HG10;clear gb10 gl10 HG10;obtain ⟨_,ce10,hcl10,hM10,hcc10,hfr10,_,_⟩ := Kd.S_elem HO_3.out z170 (x4_1 : Int) p10 q10;obtain ⟨ve10_1,rfl,ge10_1⟩ := k170_openM hM10;have hx10_0 : w11.cell? ⟨go10,(x4_1 : Int).toNat * 2,none⟩ = some (.int .i64 ((rd_T170 x3_1 x4_1).f0)) := hcc10 0 _ rfl;have hx10_1 : w11.cell? ⟨go10,(x4_1 : Int).toNat * 2 + 1,none⟩ = some (ve10_1) := hcc10 1 _ rfl;have hf10_0 : w11.frozen? ⟨go10,(x4_1 : Int).toNat * 2,none⟩ = false := hfr10 0;have hf10_1 : w11.frozen? ⟨go10,(x4_1 : Int).toNat * 2 + 1,none⟩ = false := hfr10 1;(try clear hcl10);(try clear hcc10);(try clear hfr10);(try clear hM10);replace p10 := eq_true p10;replace q10 := eq_true q10;have n_ := aM_ (Kd.S_mono (ok' := (fun k_ => some k_ ≠ (v412 : Value).ownBlock)) HO_3.out (fun k_ hk => hk.2));clear HO_3;have HO_3 := n_;clear n_;have HX12 := aM_ (show Kd.S k170 170 w11 w.heap.size (fun k_ => ((fun _ => True)) k_ ∧ ¬ ((fun k_ => some k_ = (v412 : Value).ownBlock)) k_) (.slice (some ⟨go10,0,none⟩) x3_1.length co10) x3_1 from (by (with_reducible repeat (first | apply Kd.S_alloc | apply Kd.S_drewN | apply Kd.S_drew));exact Kd.S_mono HO_3.out (fun k_ hk => ⟨trivial,fun e_ => hk e_⟩)));obtain ⟨oki12,ce12,hcl12,hM12,hcc12,hfr12,hoki12,hH12⟩ := Kd.S_elem HX12.out z170 (x4_1 : Int) (of_decide_eq_true (by first | (with_reducible assumption) | assumption)) (by have h_ : (x4_1 : Int) < ((x3_1.length : Int) : Int) := of_decide_eq_true (by first | (with_reducible assumption) | assumption);first | exact h_ | (have e_ := (Kd.S_reads' HO_3.out).1;omega) | simpa using h_);obtain ⟨ve12_1,rfl,ge12_1⟩ := k170_openM hM12;have HP12 := Kd.S_seg hH12 (of_decide_eq_true (by first | (with_reducible assumption) | assumption)) (by have h_ : (x4_1 : Int) < ((x3_1.length : Int) : Int) := of_decide_eq_true (by first | (with_reducible assumption) | assumption);first | exact h_ | (have e_ := (Kd.S_reads' HO_3.out).1;omega) | simpa using h_) (seg := [.int .i64 t410,v412]) (j := 0) (show 2 ≤ 2 from by decide) (x' := (⟨t410,t411⟩ : S170)) (k170_mkM _ _ _ (⟨t410,t411⟩ : S170) (Kd.R_mono (Kd.R_tight rfl (Kd.R_mono (ok' := fun k_ => ((fun _ => True)) k_ ∧ k_ ≠ go10) (Kd.R_apart' (HO413.out) (Kd.S_typed HO_3.out) (by decide)) (fun k_ hk => ⟨trivial,fun e_ => (hk.2) (by rw [e_];rfl)⟩))) (fun _ h_ => Or.inr (h_)))) (fun _ hk => hk) (fun k_ hk_ => ((Kd.R_mono (ok' := fun k_ => ((fun _ => True)) k_ ∧ k_ ≠ go10) (Kd.R_apart' (HO413.out) (Kd.S_typed HO_3.out) (by decide)) (fun k_ hk => ⟨trivial,fun e_ => (hk.2) (by rw [e_];rfl)⟩))).1 k_ hk_.symm);have hx12_0 := hcc12 0 _ rfl;(try simp only [show (k170).sz = 2 from rfl,Nat.mul_one,Nat.add_zero] at hx12_0);have hf12_0 := hfr12 0;(try simp only [show (k170).sz = 2 from rfl,Nat.mul_one,Nat.add_zero] at hf12_0);have hx12_1 := hcc12 1 _ rfl;(try simp only [show (k170).sz = 2 from rfl,Nat.mul_one,Nat.add_zero] at hx12_1);have hf12_1 := hfr12 1;(try simp only [show (k170).sz = 2 from rfl,Nat.mul_one,Nat.add_zero] at hf12_1);(try clear hcl12);(try clear hcc12);(try clear hfr12);(try clear hM12);(try clear hoki12);(try clear hH12)) | ((with_reducible refine gate_store (t := 170) (p := 21) rfl ?_);refine store_event (t := 170) (p := 21) (v := ?vo_w13) (w1 := ((w11.setCell ⟨go10,(x4_1 : Int).toNat * 2,none⟩ (.int .i64 t410)).setCell ⟨go10,(x4_1 : Int).toNat * 2 + 1,none⟩ (v412))) ?hg ?ho ?hn ?hr ?_;(case ho => rfl);(case hg => rfl);(case hn => rfl);(case hr => first | (go_simp;done) | (go_simp;rfl) | (obtain ⟨_,_,e_⟩ := Kd.R_slice HO413.out;rw [e_];first | (go_simp;done) | (go_simp;rfl)) | (obtain ⟨_,_,e_⟩ := Kd.S_slice HO413.out;rw [e_];first | (go_simp;done) | (go_simp;rfl)) | (obtain ⟨_,_,e_⟩ := Kd.Q_slice HO413.out;rw [e_];first | (go_simp;done) | (go_simp;rfl)) | (obtain ⟨_,_,e_⟩ := Kd.N_slice HO413.out;rw [e_];first | (go_simp;done) | (go_simp;rfl)));intro w13 hw;have hg : w11.grownBy w13 (some go10) := (by rw [hw];exact HP12.2);have hp_ : Kd.S k170 170 w13 w.heap.size (fun _ => True) (.slice (some ⟨go10,0,none⟩) x3_1.length co10) y414 := (by rw [hw,Ny414.out];exact HP12.1);clear HP12;have n0 := aM_ (hp_);have n1 := aM_ ((by rw [hw];exact below_set (below_set (HB.out) GB10.out) GB10.out : Below w.heap.size w w13));clear HO_3;clear HB;clear HO413;have HO_3 := n0;have HB := n1;clear n0 n1;clear hg hw hp_))
        go_roundg k1
        case measure => have := HK1.out;omega
        case rel => exact ⟨(y414),(wrap64 (x4_1 + 1)),(by first | rfl | (simp;done) | (simp [*];done)),H',⟨by have := HK1.out;omega⟩,⟨by (with_reducible repeat (first | apply Kd.S_alloc | apply Kd.S_drewN | apply Kd.S_drew));exact HO_3.out⟩,⟨gW_ HB.out⟩⟩
       ·rw [if_neg c9] at H
        exact absurd H (by simp)
      ·rw [if_neg c7] at H
       exact absurd H (by simp)
     ·rw [if_neg c6] at H
      have c6b0 : decide (x4_1 < (l0.length : Int)) = false := decide_eq_false c6
      clear c6
      obtain rfl := Option.some.inj H
      go_wp2
      go_ret
      exact ⟨_,fR_,by (with_reducible repeat (first | apply Kd.S_alloc | apply Kd.S_drewN | apply Kd.S_drew));exact HO_3.out,gB_ HB.out⟩
  ·rw [if_neg c3] at H
   exact absurd H (by simp)
 ·rw [if_neg c2] at H
  exact absurd H (by simp)
def laws_toWriteSS.l0 : Nat → List (List (S238)) → List (List (S170)) → Int → Option ((List (List (S170))))
  | 0,_,_,_ => none
  | k + 1,x0,x3,x4 => if x4 < (x0.length : Int) then (if 0 ≤ x4 then ((laws_toWriteS.f k (rd_L22 x0 x4)).bind fun t419 => (if x4 < (x3.length : Int) then (laws_toWriteSS.l0 k x0 (x3.set (x4 : Int).toNat t419) (wrap64 (x4 + 1))) else (none))) else (none)) else (some x3)
def laws_toWriteSS.f (k : Nat) (l0 : List (List (S238))) : Option ((List (List (S170)))) := if 0 ≤ (l0.length : Int) then (if ((l0.length : Int) : Int).toNat ≤ 11728124029610 then (laws_toWriteSS.l0 k l0 (List.replicate ((l0.length : Int) : Int).toNat []) 0) else (none)) else (none)
set_option maxHeartbeats 8000000 in
set_option maxRecDepth 100000 in
theorem laws_toWriteSS.calls (k : Nat) (A0 : Option Addr) (c0 : Nat) (l0 : List (List (S238))) (r : List (List (S170))) (w : World) (hr0 : Kd.C (Kd.slice 238 k238) w A0 l0.length l0) (hc0 : l0.length ≤ c0) (h : laws_toWriteSS.f k l0 = some r) :
  Calls Try.prog 155 #[.slice A0 l0.length c0] w fun e w' => ∃ v0_ : Value,e = .returned (v0_) ∧ Kd.R (Kd.slice 170 k170) 171 w' w.heap.size (fun _ => True) v0_ r ∧ Below w.heap.size w w' := by
 have HR0 := aM_ hr0
 have HC0 := aM_ hc0
 clear hr0 hc0
 have HB := aM_ (Below.refl w.heap.size w)
 have H : (if 0 ≤ (l0.length : Int) then (if ((l0.length : Int) : Int).toNat ≤ 11728124029610 then (laws_toWriteSS.l0 k l0 (List.replicate ((l0.length : Int) : Int).toNat []) 0) else (none)) else (none)) = some r := h
 clear h
 by_cases c2 : 0 ≤ (l0.length : Int)
 ·rw [if_pos c2] at H
  have c2b0 := eq_true c2
  have c2b1 : decide (0 ≤ (l0.length : Int)) = true := decide_eq_true c2
  clear c2
  by_cases c3 : ((l0.length : Int) : Int).toNat ≤ 11728124029610
  ·rw [if_pos c3] at H
   have c3b0 := eq_true c3
   have c3b1 : decide (((l0.length : Int) : Int).toNat ≤ 11728124029610) = true := decide_eq_true c3
   clear c3
   obtain ⟨y415,hy415⟩ : ∃ y_ : List (List (S170)),y_ = (List.replicate ((l0.length : Int) : Int).toNat []) := ⟨_,rfl⟩
   replace H : (laws_toWriteSS.l0 k l0 y415 0) = some r := by first | (rw [hy415];with_reducible exact H) | (have H2_ := (Option.bind_some _ _).symm.trans H;rw [hy415];with_reducible exact H2_) | (have H2_ := (Option.bind_some _ _).symm.trans H;with_reducible exact H2_) | with_reducible exact H | (rw [hy415];exact H) | exact H
   have Ny415 := aM_ hy415
   clear hy415
   have H' := aM_ H
   clear H
   go_enter Try.func155,Try.ntmps155
   go_wp2_with (first | ((with_reducible refine gate_dst (N := 7) rfl ?_);refine Kd.R_make (Kd.slice 170 k170) _ 171 rfl (N := 7) rfl 55 _ _ rfl (l0.length : Int) rfl rfl Try.underlying55 (.slice none 0 0) 24 info171 rfl (by decide) (by omega) [] (ok := fun _ => True) (okp := fun _ => True) ⟨_,rfl,Kd.R_nil _ _ _ _ _⟩ (fun _ hk => hk) trivial (of_decide_eq_true (by first | (with_reducible assumption) | assumption)) (Nat.le_trans (Nat.mul_le_mul_right _ (of_decide_eq_true (by first | (with_reducible assumption) | assumption) : (l0.length : Int).toNat ≤ 11728124029610)) (by omega)) (Below.refl _ _) (Nat.le_refl _) ?_;intro v416 w4 ho5 hb hg_ hnew_;clear hg_ hnew_;(first | rw [← Ny415.out] at ho5 | (simp only [Int.reduceToNat] at ho5;rw [← Ny415.out] at ho5));have n0 := aM_ (Kd.R_lower ho5 (below_size (gB_ HB.out)));have n1 := aM_ (sT_ HB.out hb);clear HB;have HO417 := n0;have HB := n1;clear n0 n1;clear hb ho5))
   go_loopg [4] k (fun kq v4 w' => ∃ (x3_1 : List (List (S170))) (x4_1 : Int),v4 = .int .i64 x4_1 ∧ Aside0 (laws_toWriteSS.l0 kq l0 x3_1 x4_1 = some r) ∧ Aside0 (kq ≤ k) ∧ Aside0 (Kd.R (Kd.slice 170 k170) 171 w' w.heap.size (fun _ => True) v416 x3_1) ∧ Aside0 (Below w.heap.size w w'))
   case atStart => exact ⟨(y415),(0),(by first | rfl | (simp;done) | (simp [*];done)),H',⟨Nat.le_refl _⟩,⟨by (with_reducible repeat (first | apply rA_ | apply rN_ | apply rD_));exact HO417.out⟩,⟨gW_ HB.out⟩⟩
   case round =>
    clear H'
    try clear c1
    try clear c2
    try clear c2b0
    try clear c2b1
    try clear p2
    try clear c3
    try clear c3b0
    try clear c3b1
    obtain ⟨x3_1,x4_1,rfl,HA,HK1,HO_3,HB⟩ := hrel
    cases gk with
    | zero => exact absurd HA.out (by simp [laws_toWriteSS.l0])
    | succ k1 =>
     have H := HA.out
     clear HA
     simp only [laws_toWriteSS.l0] at H
     by_cases c6 : x4_1 < (l0.length : Int)
     ·rw [if_pos c6] at H
      have c6b0 : decide (x4_1 < (l0.length : Int)) = true := decide_eq_true c6
      clear c6
      by_cases c7 : 0 ≤ x4_1
      ·rw [if_pos c7] at H
       have c7b0 : decide (0 ≤ x4_1) = true := decide_eq_true c7
       clear c7
       replace H := Option.bind_eq_some_iff.mp H
       obtain ⟨t419,A80,H⟩ := H
       replace H : (if x4_1 < (x3_1.length : Int) then (laws_toWriteSS.l0 k1 l0 (x3_1.set (x4_1 : Int).toNat t419) (wrap64 (x4_1 + 1))) else (none)) = some r := H
       have A8 := aM_ A80
       clear A80
       by_cases c9 : x4_1 < (x3_1.length : Int)
       ·rw [if_pos c9] at H
        have c9b0 : decide (x4_1 < (x3_1.length : Int)) = true := decide_eq_true c9
        clear c9
        obtain ⟨y422,hy422⟩ : ∃ y_ : List (List (S170)),y_ = (x3_1.set (x4_1 : Int).toNat t419) := ⟨_,rfl⟩
        replace H : (laws_toWriteSS.l0 k1 l0 y422 (wrap64 (x4_1 + 1))) = some r := by first | (rw [hy422];with_reducible exact H) | (have H2_ := (Option.bind_some _ _).symm.trans H;rw [hy422];with_reducible exact H2_) | (have H2_ := (Option.bind_some _ _).symm.trans H;with_reducible exact H2_) | with_reducible exact H | (rw [hy422];exact H) | exact H
        have Ny422 := aM_ hy422
        clear hy422
        have H' := aM_ H
        clear H
        have p418 : 0 ≤ (x4_1 : Int) := of_decide_eq_true (by first | (with_reducible assumption) | assumption)
        have q418 : x4_1 < (l0.length : Int) := of_decide_eq_true (by first | (with_reducible assumption) | assumption)
        obtain ⟨ad418,A418_0,c418_0,e418,hx418_0,hl418_0,hi418_0⟩ := at_L22 HR0.out x4_1 p418 q418
        cases e418
        replace hx418_0 := cB_ HB.out hx418_0
        have HR418_0 := aM_ hi418_0
        have HC418_0 := aM_ hl418_0
        clear hi418_0 hl418_0
        replace p418 := eq_true p418
        replace q418 := eq_true q418
        go_wp2_with (first | ((with_reducible refine gate_callee (f := 176) rfl ?_);refine gL_ (some 20) Try.func176 #[.slice A418_0 (rd_L22 l0 x4_1).length c418_0] ?_;(with_reducible refine (laws_toWriteS.calls k1 _ _ (rd_L22 l0 x4_1) t419 _ ?side1 ?side2 A8.out).mono ?_);(case side1 => exact cS_ (Kd.C_below HR418_0.out HB.out));(case side2 => exact HC418_0.out);rintro e w11 ⟨v420,rfl,ho0,hb⟩;refine ⟨_,rfl,?_⟩;have n0 := aM_ (Kd.R_elder' (by (with_reducible repeat (first | apply rA_ | apply rN_ | apply rD_));exact HO_3.out) (Kd.S_base ho0) hb);have n1 := aM_ (Kd.S_lower ho0 (below_size (gB_ HB.out)));have n2 := aM_ (sT_ HB.out hb);clear HO_3;clear HB;have HO_3 := n0;have HO421 := n1;have HB := n2;clear n0 n1 n2;(try clear ho0);have p10 : 0 ≤ (x4_1 : Int) := of_decide_eq_true (by first | (with_reducible assumption) | assumption);have q10 : (x4_1 : Int) < ((x3_1.length : Int) : Int) := of_decide_eq_true (by first | (with_reducible assumption) | assumption);obtain ⟨go10,co10,eo10,gb10,gl10,cl10,HG10⟩ := Kd.R_form HO_3.out (by omega);(first | cases eo10 | (injection eo10 with ea_ en_ ec_;(first | subst ea_ | (injection ea_ with ea_;subst ea_));subst ec_;clear en_));have GB10 := aM_ gb10;have GG10 := aM_ HG10;clear gb10 gl10 HG10;obtain ⟨ce10,hcl10,hM10,hcc10,hfr10⟩ := Kd.R_elem HO_3.out [] (x4_1 : Int) p10 q10;obtain ⟨ve10_0,rfl,ge10_0⟩ := hM10;have hx10_0 := hcc10 0 _ rfl;have hf10_0 := hfr10 0;(try simp only [show ((Kd.slice 170 k170)).sz = 1 from rfl,Nat.mul_one,Nat.add_zero] at hx10_0);(try simp only [show ((Kd.slice 170 k170)).sz = 1 from rfl,Nat.mul_one,Nat.add_zero] at hf10_0);(try clear hcl10);(try clear hcc10);(try clear hfr10);(try clear hM10);replace p10 := eq_true p10;replace q10 := eq_true q10;have n_ := aM_ (Kd.R_mono (ok' := (fun k_ => some k_ ≠ (v420 : Value).ownBlock)) HO_3.out (fun k_ hk => hk.2));clear HO_3;have HO_3 := n_;clear n_;have HX12 := aM_ (show Kd.R (Kd.slice 170 k170) 171 w11 w.heap.size (fun _ => True) (.slice (some ⟨go10,0,none⟩) x3_1.length co10) x3_1 from (by (with_reducible repeat (first | apply rA_ | apply rN_ | apply rD_));exact Kd.R_mono HO_3.out (fun _ hk => trivial)));obtain ⟨ce12,hcl12,hM12,hcc12,hfr12⟩ := Kd.R_elem HX12.out [] (x4_1 : Int) (of_decide_eq_true (by first | (with_reducible assumption) | assumption)) (by have h_ : (x4_1 : Int) < ((x3_1.length : Int) : Int) := of_decide_eq_true (by first | (with_reducible assumption) | assumption);first | exact h_ | (have e_ := (Kd.R_reads' HO_3.out).1;omega) | simpa using h_);obtain ⟨ve12_0,rfl,ge12_0⟩ := hM12;have HP12 := Kd.R_seg HX12.out (x4_1 : Int) (of_decide_eq_true (by first | (with_reducible assumption) | assumption)) (by have h_ : (x4_1 : Int) < ((x3_1.length : Int) : Int) := of_decide_eq_true (by first | (with_reducible assumption) | assumption);first | exact h_ | (have e_ := (Kd.R_reads' HO_3.out).1;omega) | simpa using h_) (seg := [v420]) (j := 0) hcl12 hcc12 (show 1 ≤ 1 from by decide) (x' := t419) (Kd.M_row (Kd.R_mono (Kd.R_apart' ((Kd.S_R HO421.out)) (Kd.R_typed HO_3.out) (by decide)) (fun k_ hk => ⟨trivial,fun e_ => (hk.2) (by rw [e_];rfl)⟩))) (fun _ hk => hk);have hx12_0 := hcc12 0 _ rfl;(try simp only [show ((Kd.slice 170 k170)).sz = 1 from rfl,Nat.mul_one,Nat.add_zero] at hx12_0);have hf12_0 := hfr12 0;(try simp only [show ((Kd.slice 170 k170)).sz = 1 from rfl,Nat.mul_one,Nat.add_zero] at hf12_0);(try clear hcl12);(try clear hcc12);(try clear hfr12);(try clear hM12);(try simp only [show ((Kd.slice 170 k170)).sz = 1 from rfl,Nat.mul_one,Nat.add_zero] at HP12)) | ((with_reducible refine gate_store (t := 171) (p := 21) rfl ?_);refine store_event (t := 171) (p := 21) (v := ?vo_w13) (w1 := (w11.setCell ⟨go10,(x4_1 : Int).toNat,none⟩ (v420))) ?hg ?ho ?hn ?hr ?_;(case ho => rfl);(case hg => rfl);(case hn => rfl);(case hr => first | (go_simp;done) | (go_simp;rfl) | (obtain ⟨_,_,e_⟩ := Kd.R_slice HO421.out;rw [e_];first | (go_simp;done) | (go_simp;rfl)) | (obtain ⟨_,_,e_⟩ := Kd.S_slice HO421.out;rw [e_];first | (go_simp;done) | (go_simp;rfl)) | (obtain ⟨_,_,e_⟩ := Kd.Q_slice HO421.out;rw [e_];first | (go_simp;done) | (go_simp;rfl)) | (obtain ⟨_,_,e_⟩ := Kd.N_slice HO421.out;rw [e_];first | (go_simp;done) | (go_simp;rfl)));intro w13 hw;have hg : w11.grownBy w13 (some go10) := (by rw [hw];exact HP12.2);have hp_ : Kd.R (Kd.slice 170 k170) 171 w13 w.heap.size (fun _ => True) (.slice (some ⟨go10,0,none⟩) x3_1.length co10) y422 := (by rw [hw,Ny422.out];exact HP12.1);clear HP12;have n0 := aM_ (hp_);have n1 := aM_ ((by rw [hw];exact below_set (HB.out) GB10.out : Below w.heap.size w w13));clear HO_3;clear HB;clear HO421;have HO_3 := n0;have HB := n1;clear n0 n1;clear hg hw hp_))
        go_roundg k1
        case measure => have := HK1.out;omega
        case rel => exact ⟨(y422),(wrap64 (x4_1 + 1)),(by first | rfl | (simp;done) | (simp [*];done)),H',⟨by have := HK1.out;omega⟩,⟨by (with_reducible repeat (first | apply rA_ | apply rN_ | apply rD_));exact HO_3.out⟩,⟨gW_ HB.out⟩⟩
       ·rw [if_neg c9] at H
        exact absurd H (by simp)
      ·rw [if_neg c7] at H
       exact absurd H (by simp)
     ·rw [if_neg c6] at H
      have c6b0 : decide (x4_1 < (l0.length : Int)) = false := decide_eq_false c6
      clear c6
      obtain rfl := Option.some.inj H
      go_wp2
      go_ret
      exact ⟨_,fR_,by (with_reducible repeat (first | apply rA_ | apply rN_ | apply rD_));exact HO_3.out,gB_ HB.out⟩
  ·rw [if_neg c3] at H
   exact absurd H (by simp)
 ·rw [if_neg c2] at H
  exact absurd H (by simp)
def laws_toMemory.f (k : Nat) (l0_0 : List (List (S238))) : Option ((List (List (S170)))) := (laws_toWriteSS.f k l0_0).bind fun t426 => (some t426)
set_option maxHeartbeats 8000000 in
set_option maxRecDepth 100000 in
theorem laws_toMemory.calls (k : Nat) (A0_0 : Option Addr) (c0_0 : Nat) (l0_0 : List (List (S238))) (r : List (List (S170))) (w : World) (hr0_0 : Kd.C (Kd.slice 238 k238) w A0_0 l0_0.length l0_0) (hc0_0 : l0_0.length ≤ c0_0) (h : laws_toMemory.f k l0_0 = some r) :
  Calls Try.prog 105 #[.agg #[.slice A0_0 l0_0.length c0_0]] w fun e w' => ∃ v0_ : Value,e = .returned (.agg #[v0_]) ∧ Kd.R (Kd.slice 170 k170) 171 w' w.heap.size (fun _ => True) v0_ r ∧ Below w.heap.size w w' := by
 have hu82 := Try.underlying82
 have hu57 := Try.underlying57
 have HR0_0 := aM_ hr0_0
 have HC0_0 := aM_ hc0_0
 clear hr0_0 hc0_0
 have HB := aM_ (Below.refl w.heap.size w)
 have H : ((laws_toWriteSS.f k l0_0).bind fun t426 => (some t426)) = some r := h
 clear h
 replace H := Option.bind_eq_some_iff.mp H
 obtain ⟨t426,A20,H⟩ := H
 replace H : (some t426) = some r := H
 have A2 := aM_ A20
 clear A20
 obtain rfl := Option.some.inj H
 go_enter Try.func105,Try.ntmps105
 go_wp2_with (first | ((with_reducible refine gate_dst (N := 1) rfl ?_);refine bX_ 1 (cs := #[.slice A0_0 l0_0.length c0_0]) (t := 82) ?_;intro gb423 hg w3 hbox hb;have n0 := aM_ (sT_ HB.out hb);have n1 := aM_ (hbox);have n2 := aM_ (sZ_ hg HB.out);have n3 := aM_ (sZ_ hg HB.out);clear HB;have HB := n0;have BK423 := n1;have GW423 := n2;have GE423 := n3;clear n0 n1 n2 n3;clear hb hbox hg) | ((with_reducible refine gate_dst (N := 2) rfl ?_);refine bX_ 2 (cs := #[.slice none 0 0]) (t := 57) ?_;intro gb424 hg w4 hbox hb;have n0 := aM_ (nB_ BK423.out hb);have n1 := aM_ (sT_ HB.out hb);have n2 := aM_ (hbox);have n3 := aM_ (sZ_ hg HB.out);have n4 := aM_ (sZ_ hg HB.out);have n5 := aM_ (nL_ hg BK423.out);have n6 := aM_ (nG_ hg BK423.out);clear BK423;clear HB;have BK423 := n0;have HB := n1;have BK424 := n2;have GW424 := n3;have GE424 := n4;have NB423_424 := n5;have NB424_423 := n6;clear n0 n1 n2 n3 n4 n5 n6;clear hb hbox hg) | ((with_reducible refine gate_dst (N := 3) rfl ?_);refine bX_ 3 (cs := #[.slice none 0 0]) (t := 57) ?_;intro gb425 hg w5 hbox hb;have n0 := aM_ (nB_ BK423.out hb);have n1 := aM_ (nB_ BK424.out hb);have n2 := aM_ (sT_ HB.out hb);have n3 := aM_ (hbox);have n4 := aM_ (sZ_ hg HB.out);have n5 := aM_ (sZ_ hg HB.out);have n6 := aM_ (nL_ hg BK423.out);have n7 := aM_ (nG_ hg BK423.out);have n8 := aM_ (nL_ hg BK424.out);have n9 := aM_ (nG_ hg BK424.out);clear BK423;clear BK424;clear HB;have BK423 := n0;have BK424 := n1;have HB := n2;have BK425 := n3;have GW425 := n4;have GE425 := n5;have NB423_425 := n6;have NB425_423 := n7;have NB424_425 := n8;have NB425_424 := n9;clear n0 n1 n2 n3 n4 n5 n6 n7 n8 n9;clear hb hbox hg;have hnb6 := NB423_424.out;have hnc6 := NB424_423.out;have hnb7 := NB423_425.out;have hnc7 := NB425_423.out;have hcz8_0 : w5.cell? ⟨gb423,0,none⟩ = some (.slice A0_0 l0_0.length c0_0) := (blk_cell BK423.out 0).trans rfl;have hfz8_0 := blk_frozen BK423.out 0) | ((with_reducible refine gate_callee (f := 155) rfl ?_);refine gL_ (some 6) Try.func155 #[.slice A0_0 l0_0.length c0_0] ?_;(with_reducible refine (laws_toWriteSS.calls k _ _ l0_0 t426 _ ?side1 ?side2 A2.out).mono ?_);(case side1 => exact cS_ (Kd.C_below HR0_0.out HB.out));(case side2 => exact HC0_0.out);rintro e w9 ⟨v427,rfl,ho0,hb⟩;refine ⟨_,rfl,?_⟩;have n0 := aM_ (Kd.R_lower ho0 (below_size (gB_ HB.out)));have n1 := aM_ (nB_ BK423.out hb);have n2 := aM_ (nB_ BK424.out hb);have n3 := aM_ (nB_ BK425.out hb);have n4 := aM_ (sT_ HB.out hb);clear BK423;clear BK424;clear BK425;clear HB;have HO428 := n0;have BK423 := n1;have BK424 := n2;have BK425 := n3;have HB := n4;clear n0 n1 n2 n3 n4;(try clear ho0);obtain ⟨Ao10,co10,eo10⟩ := Kd.R_slice HO428.out;subst eo10;have hnb11 := NB425_424.out;have hnc11 := NB424_425.out;have hcz12_0 : w9.cell? ⟨gb425,0,none⟩ = some (.slice none 0 0) := (blk_cell BK425.out 0).trans rfl;have hfz12_0 := blk_frozen BK425.out 0;have hcz13_0 : w9.cell? ⟨gb424,0,none⟩ = some (.slice none 0 0) := (blk_cell BK424.out 0).trans rfl;have hfz13_0 := blk_frozen BK424.out 0))
 refine bodyPost_ret (results_cell_row rfl _ _ gb424 57 #[.slice Ao10 t426.length co10] (0,0) _ rfl (by (with_reducible repeat (first | refine bN_ ?_ _ | refine bD_ ?_ | refine bA_ ?_ _));refine blk_put (cs := #[.slice none 0 0]) ?_ 0 _ rfl;exact rWf_ BK424.out) Try.underlying57 rfl (by kernel_rfl)) rfl ?_
 exact ⟨_,fR_,by (with_reducible repeat (first | apply rA_ | apply rN_ | apply rD_));exact Kd.R_mono (Kd.R_far (p := ⟨gb424,0,none⟩) (Kd.R_far (p := ⟨gb425,0,none⟩) (Kd.R_types (Kd.R_types HO428.out BK425.out (by decide)) BK424.out (by decide)) (fun _ hk => hk.1.2) (.slice Ao10 t426.length co10)) (fun _ hk => hk.2) (.slice Ao10 t426.length co10)) (fun _ hk => trivial),gB_ HB.out⟩
def laws_toMachine.f (k : Nat) (l0_0 : List (List (S177))) (l0_1 : List (S194)) (l0_2 : List (List (S238))) (l0_3 : List (S190)) : Option ((List (List (S175))) × (List (S123)) × (List (List (S170))) × (List (S35))) := (laws_toStepSS.f k l0_0).bind fun t432 => ((laws_toCoreS.f k l0_1).bind fun t435 => ((laws_toMemory.f k l0_2).bind fun t438 => ((laws_toNoteS.f k l0_3).bind fun t441 => (some (t432,t435,t438,t441)))))
set_option maxHeartbeats 8000000 in
set_option maxRecDepth 100000 in
theorem laws_toMachine.calls (k : Nat) (A0_0 : Option Addr) (c0_0 : Nat) (l0_0 : List (List (S177))) (A0_1 : Option Addr) (c0_1 : Nat) (l0_1 : List (S194)) (A0_2 : Option Addr) (c0_2 : Nat) (l0_2 : List (List (S238))) (A0_3 : Option Addr) (c0_3 : Nat) (l0_3 : List (S190)) (r1 : List (List (S175))) (r2 : List (S123)) (r3 : List (List (S170))) (r4 : List (S35)) (w : World) (hr0_0 : Kd.C (Kd.slice 177 k177) w A0_0 l0_0.length l0_0) (hc0_0 : l0_0.length ≤ c0_0) (hr0_1 : Kd.C k194 w A0_1 l0_1.length l0_1) (hc0_1 : l0_1.length ≤ c0_1) (hr0_2 : Kd.C (Kd.slice 238 k238) w A0_2 l0_2.length l0_2) (hc0_2 : l0_2.length ≤ c0_2) (hr0_3 : Kd.C k190 w A0_3 l0_3.length l0_3) (hc0_3 : l0_3.length ≤ c0_3) (h : laws_toMachine.f k l0_0 l0_1 l0_2 l0_3 = some (r1,r2,r3,r4)) :
  Calls Try.prog 44 #[.agg #[.slice A0_0 l0_0.length c0_0,.slice A0_1 l0_1.length c0_1,.slice A0_2 l0_2.length c0_2,.slice A0_3 l0_3.length c0_3]] w fun e w' => ∃ v0_ v1_ v2_ v3_ : Value,e = .returned (.agg #[v0_,v1_,v2_,v3_]) ∧ Kd.S (Kd.slice 175 k175) 125 w' w.heap.size (fun _ => True) v0_ r1 ∧ Kd.S k123 123 w' w.heap.size (fun _ => True) v1_ r2 ∧ Kd.R (Kd.slice 170 k170) 171 w' w.heap.size (fun _ => True) v2_ r3 ∧ Kd.R k35 35 w' w.heap.size (fun _ => True) v3_ r4 ∧ Below w.heap.size w w' := by
 have hu84 := Try.underlying84
 have hu59 := Try.underlying59
 have hu82 := Try.underlying82
 have hu57 := Try.underlying57
 have HR0_0 := aM_ hr0_0
 have HC0_0 := aM_ hc0_0
 clear hr0_0 hc0_0
 have HR0_1 := aM_ hr0_1
 have HC0_1 := aM_ hc0_1
 clear hr0_1 hc0_1
 have HR0_2 := aM_ hr0_2
 have HC0_2 := aM_ hc0_2
 clear hr0_2 hc0_2
 have HR0_3 := aM_ hr0_3
 have HC0_3 := aM_ hc0_3
 clear hr0_3 hc0_3
 have HB := aM_ (Below.refl w.heap.size w)
 have H : ((laws_toStepSS.f k l0_0).bind fun t432 => ((laws_toCoreS.f k l0_1).bind fun t435 => ((laws_toMemory.f k l0_2).bind fun t438 => ((laws_toNoteS.f k l0_3).bind fun t441 => (some (t432,t435,t438,t441)))))) = some (r1,r2,r3,r4) := h
 clear h
 replace H := Option.bind_eq_some_iff.mp H
 obtain ⟨t432,A20,H⟩ := H
 replace H : ((laws_toCoreS.f k l0_1).bind fun t435 => ((laws_toMemory.f k l0_2).bind fun t438 => ((laws_toNoteS.f k l0_3).bind fun t441 => (some (t432,t435,t438,t441))))) = some (r1,r2,r3,r4) := H
 have A2 := aM_ A20
 clear A20
 replace H := Option.bind_eq_some_iff.mp H
 obtain ⟨t435,A30,H⟩ := H
 replace H : ((laws_toMemory.f k l0_2).bind fun t438 => ((laws_toNoteS.f k l0_3).bind fun t441 => (some (t432,t435,t438,t441)))) = some (r1,r2,r3,r4) := H
 have A3 := aM_ A30
 clear A30
 replace H := Option.bind_eq_some_iff.mp H
 obtain ⟨t438,A40,H⟩ := H
 replace H : ((laws_toNoteS.f k l0_3).bind fun t441 => (some (t432,t435,t438,t441))) = some (r1,r2,r3,r4) := H
 have A4 := aM_ A40
 clear A40
 replace H := Option.bind_eq_some_iff.mp H
 obtain ⟨t441,A50,H⟩ := H
 replace H : (some (t432,t435,t438,t441)) = some (r1,r2,r3,r4) := H
 have A5 := aM_ A50
 clear A50
 simp only [Option.some.injEq,Prod.mk.injEq] at H
 obtain ⟨rfl,rfl,rfl,rfl⟩ := H
 go_enter Try.func44,Try.ntmps44
 go_wp2_with (first | ((with_reducible refine gate_dst (N := 1) rfl ?_);refine bX_ 1 (cs := #[.slice A0_0 l0_0.length c0_0,.slice A0_1 l0_1.length c0_1,.slice A0_2 l0_2.length c0_2,.slice A0_3 l0_3.length c0_3]) (t := 84) ?_;intro gb429 hg w6 hbox hb;have n0 := aM_ (sT_ HB.out hb);have n1 := aM_ (hbox);have n2 := aM_ (sZ_ hg HB.out);have n3 := aM_ (sZ_ hg HB.out);clear HB;have HB := n0;have BK429 := n1;have GW429 := n2;have GE429 := n3;clear n0 n1 n2 n3;clear hb hbox hg) | ((with_reducible refine gate_dst (N := 2) rfl ?_);refine bX_ 2 (cs := #[.slice none 0 0,.slice none 0 0,.slice none 0 0,.slice none 0 0]) (t := 59) ?_;intro gb430 hg w7 hbox hb;have n0 := aM_ (nB_ BK429.out hb);have n1 := aM_ (sT_ HB.out hb);have n2 := aM_ (hbox);have n3 := aM_ (sZ_ hg HB.out);have n4 := aM_ (sZ_ hg HB.out);have n5 := aM_ (nL_ hg BK429.out);have n6 := aM_ (nG_ hg BK429.out);clear BK429;clear HB;have BK429 := n0;have HB := n1;have BK430 := n2;have GW430 := n3;have GE430 := n4;have NB429_430 := n5;have NB430_429 := n6;clear n0 n1 n2 n3 n4 n5 n6;clear hb hbox hg) | ((with_reducible refine gate_dst (N := 3) rfl ?_);refine bX_ 3 (cs := #[.slice none 0 0,.slice none 0 0,.slice none 0 0,.slice none 0 0]) (t := 59) ?_;intro gb431 hg w8 hbox hb;have n0 := aM_ (nB_ BK429.out hb);have n1 := aM_ (nB_ BK430.out hb);have n2 := aM_ (sT_ HB.out hb);have n3 := aM_ (hbox);have n4 := aM_ (sZ_ hg HB.out);have n5 := aM_ (sZ_ hg HB.out);have n6 := aM_ (nL_ hg BK429.out);have n7 := aM_ (nG_ hg BK429.out);have n8 := aM_ (nL_ hg BK430.out);have n9 := aM_ (nG_ hg BK430.out);clear BK429;clear BK430;clear HB;have BK429 := n0;have BK430 := n1;have HB := n2;have BK431 := n3;have GW431 := n4;have GE431 := n5;have NB429_431 := n6;have NB431_429 := n7;have NB430_431 := n8;have NB431_430 := n9;clear n0 n1 n2 n3 n4 n5 n6 n7 n8 n9;clear hb hbox hg;have hnb9 := NB429_430.out;have hnc9 := NB430_429.out;have hnb10 := NB429_431.out;have hnc10 := NB431_429.out;obtain ⟨hcz11_0,hcz11_1,hcz11_2,hcz11_3,hfz11_0,hfz11_1,hfz11_2,hfz11_3⟩ := bR4_ BK429.out) | ((with_reducible refine gate_callee (f := 26) rfl ?_);refine gL_ (some 6) Try.func26 #[.slice A0_0 l0_0.length c0_0] ?_;(with_reducible refine (laws_toStepSS.calls k _ _ l0_0 t432 _ ?side1 ?side2 A2.out).mono ?_);(case side1 => exact cS_ (Kd.C_below HR0_0.out HB.out));(case side2 => exact HC0_0.out);rintro e w12 ⟨v433,rfl,ho0,hb⟩;refine ⟨_,rfl,?_⟩;have n0 := aM_ (Kd.S_lower ho0 (below_size (gB_ HB.out)));have n1 := aM_ (nB_ BK429.out hb);have n2 := aM_ (nB_ BK430.out hb);have n3 := aM_ (nB_ BK431.out hb);have n4 := aM_ (sT_ HB.out hb);clear BK429;clear BK430;clear BK431;clear HB;have HO434 := n0;have BK429 := n1;have BK430 := n2;have BK431 := n3;have HB := n4;clear n0 n1 n2 n3 n4;(try clear ho0);obtain ⟨Ao13,co13,eo13⟩ := Kd.S_slice HO434.out;subst eo13;have hnb14 := NB431_430.out;have hnc14 := NB430_431.out;obtain ⟨hcz15_0,hcz15_1,hcz15_2,hcz15_3,hfz15_0,hfz15_1,hfz15_2,hfz15_3⟩ := bR4_ BK431.out;obtain ⟨hcz16_0,hcz16_1,hcz16_2,hcz16_3,hfz16_0,hfz16_1,hfz16_2,hfz16_3⟩ := bR4_ BK429.out) | ((with_reducible refine gate_callee (f := 104) rfl ?_);refine gL_ (some 10) Try.func104 #[.slice A0_1 l0_1.length c0_1] ?_;(with_reducible refine (laws_toCoreS.calls k _ _ l0_1 t435 _ ?side1 ?side2 A3.out).mono ?_);(case side1 => exact Kd.C_below HR0_1.out (gB_ HB.out));(case side2 => exact HC0_1.out);rintro e w17 ⟨v436,rfl,ho0,hb⟩;refine ⟨_,rfl,?_⟩;have n0 := aM_ (Kd.S_below (by (with_reducible repeat (first | apply Kd.S_alloc | apply Kd.S_drewN | apply Kd.S_drew));exact (Kd.S_mono (Kd.S_far (p := ⟨gb431,0,none⟩) (Kd.S_types HO434.out BK431.out (by decide)) (fun _ hk => hk.2) (.slice Ao13 t432.length co13)) (fun _ h_ => h_.1))) hb);have n1 := aM_ (Kd.S_lower ho0 (below_size (gB_ HB.out)));have n2 := aM_ (nBf_ BK429.out hb);have n3 := aM_ (nBf_ BK430.out hb);have n4 := aM_ (blk_below (g := gb431) (o := .cells #[.slice Ao13 t432.length co13,.slice none 0 0,.slice none 0 0,.slice none 0 0] 59 (0,0)) (by (with_reducible repeat (first | refine bN_ ?_ _ | refine bD_ ?_ | refine bA_ ?_ _));refine blk_put (cs := #[.slice none 0 0,.slice none 0 0,.slice none 0 0,.slice none 0 0]) ?_ 0 _ rfl;exact rW_ BK431.out) hb);have n5 := aM_ (sT_ HB.out hb);clear HO434;clear BK429;clear BK430;clear BK431;clear HB;have HO434 := n0;have HO437 := n1;have BK429 := n2;have BK430 := n3;have BK431 := n4;have HB := n5;clear n0 n1 n2 n3 n4 n5;(try clear ho0);obtain ⟨Ao18,co18,eo18⟩ := Kd.S_slice HO437.out;subst eo18;obtain ⟨hcz19_0,hcz19_1,hcz19_2,hcz19_3,hfz19_0,hfz19_1,hfz19_2,hfz19_3⟩ := bR4_ BK431.out;obtain ⟨hcz20_0,hcz20_1,hcz20_2,hcz20_3,hfz20_0,hfz20_1,hfz20_2,hfz20_3⟩ := bR4_ BK429.out) | ((with_reducible refine gate_callee (f := 105) rfl ?_);refine gL_ (some 14) Try.func105 #[.agg #[.slice A0_2 l0_2.length c0_2]] ?_;(with_reducible refine (laws_toMemory.calls k _ _ l0_2 t438 _ ?side1 ?side2 A4.out).mono ?_);(case side1 => exact Kd.C_below HR0_2.out (gB_ HB.out));(case side2 => exact HC0_2.out);rintro e w21 ⟨v439,rfl,ho0,hb⟩;refine ⟨_,rfl,?_⟩;have n0 := aM_ (Kd.S_below (by (with_reducible repeat (first | apply Kd.S_alloc | apply Kd.S_drewN | apply Kd.S_drew));exact (Kd.S_mono (Kd.S_far (p := ⟨gb431,1,none⟩) (Kd.S_types HO434.out BK431.out (by decide)) (fun _ hk => hk.2) (.slice Ao18 t435.length co18)) (fun _ h_ => h_.1))) hb);have n1 := aM_ (Kd.S_below (by (with_reducible repeat (first | apply Kd.S_alloc | apply Kd.S_drewN | apply Kd.S_drew));exact (Kd.S_mono (Kd.S_far (p := ⟨gb431,1,none⟩) (Kd.S_types HO437.out BK431.out (by decide)) (fun _ hk => hk.2) (.slice Ao18 t435.length co18)) (fun _ h_ => h_.1))) hb);have n2 := aM_ (Kd.R_lower ho0 (below_size (gB_ HB.out)));have n3 := aM_ (nBf_ BK429.out hb);have n4 := aM_ (nBf_ BK430.out hb);have n5 := aM_ (blk_below (g := gb431) (o := .cells #[.slice Ao13 t432.length co13,.slice Ao18 t435.length co18,.slice none 0 0,.slice none 0 0] 59 (0,0)) (by (with_reducible repeat (first | refine bN_ ?_ _ | refine bD_ ?_ | refine bA_ ?_ _));refine blk_put (cs := #[.slice Ao13 t432.length co13,.slice none 0 0,.slice none 0 0,.slice none 0 0]) ?_ 1 _ rfl;exact rW_ BK431.out) hb);have n6 := aM_ (sT_ HB.out hb);clear HO434;clear HO437;clear BK429;clear BK430;clear BK431;clear HB;have HO434 := n0;have HO437 := n1;have HO440 := n2;have BK429 := n3;have BK430 := n4;have BK431 := n5;have HB := n6;clear n0 n1 n2 n3 n4 n5 n6;(try clear ho0);obtain ⟨Ao22,co22,eo22⟩ := Kd.R_slice HO440.out;subst eo22;obtain ⟨hcz23_0,hcz23_1,hcz23_2,hcz23_3,hfz23_0,hfz23_1,hfz23_2,hfz23_3⟩ := bR4_ BK431.out;obtain ⟨hcz24_0,hcz24_1,hcz24_2,hcz24_3,hfz24_0,hfz24_1,hfz24_2,hfz24_3⟩ := bR4_ BK429.out) | ((with_reducible refine gate_callee (f := 97) rfl ?_);refine gL_ (some 18) Try.func97 #[.slice A0_3 l0_3.length c0_3] ?_;(with_reducible refine (laws_toNoteS.calls k _ _ l0_3 t441 _ ?side1 ?side2 A5.out).mono ?_);(case side1 => exact Kd.C_below HR0_3.out (gB_ HB.out));(case side2 => exact HC0_3.out);rintro e w25 ⟨v442,rfl,ho0,hb⟩;refine ⟨_,rfl,?_⟩;have n0 := aM_ (Kd.S_below (by (with_reducible repeat (first | apply Kd.S_alloc | apply Kd.S_drewN | apply Kd.S_drew));exact (Kd.S_mono (Kd.S_far (p := ⟨gb431,2,none⟩) (Kd.S_types HO434.out BK431.out (by decide)) (fun _ hk => hk.2) (.slice Ao22 t438.length co22)) (fun _ h_ => h_.1))) hb);have n1 := aM_ (Kd.S_below (by (with_reducible repeat (first | apply Kd.S_alloc | apply Kd.S_drewN | apply Kd.S_drew));exact (Kd.S_mono (Kd.S_far (p := ⟨gb431,2,none⟩) (Kd.S_types HO437.out BK431.out (by decide)) (fun _ hk => hk.2) (.slice Ao22 t438.length co22)) (fun _ h_ => h_.1))) hb);have n2 := aM_ (Kd.R_below (by (with_reducible repeat (first | apply rA_ | apply rN_ | apply rD_));exact (Kd.R_mono (Kd.R_far (p := ⟨gb431,2,none⟩) (Kd.R_types HO440.out BK431.out (by decide)) (fun _ hk => hk.2) (.slice Ao22 t438.length co22)) (fun _ h_ => h_.1))) hb);have n3 := aM_ (Kd.R_lower ho0 (below_size (gB_ HB.out)));have n4 := aM_ (nBf_ BK429.out hb);have n5 := aM_ (nBf_ BK430.out hb);have n6 := aM_ (blk_below (g := gb431) (o := .cells #[.slice Ao13 t432.length co13,.slice Ao18 t435.length co18,.slice Ao22 t438.length co22,.slice none 0 0] 59 (0,0)) (by (with_reducible repeat (first | refine bN_ ?_ _ | refine bD_ ?_ | refine bA_ ?_ _));refine blk_put (cs := #[.slice Ao13 t432.length co13,.slice Ao18 t435.length co18,.slice none 0 0,.slice none 0 0]) ?_ 2 _ rfl;exact rW_ BK431.out) hb);have n7 := aM_ (sT_ HB.out hb);clear HO434;clear HO437;clear HO440;clear BK429;clear BK430;clear BK431;clear HB;have HO434 := n0;have HO437 := n1;have HO440 := n2;have HO443 := n3;have BK429 := n4;have BK430 := n5;have BK431 := n6;have HB := n7;clear n0 n1 n2 n3 n4 n5 n6 n7;(try clear ho0);obtain ⟨Ao26,co26,eo26⟩ := Kd.R_slice HO443.out;subst eo26;obtain ⟨hcz27_0,hcz27_1,hcz27_2,hcz27_3,hfz27_0,hfz27_1,hfz27_2,hfz27_3⟩ := bR4_ BK431.out;obtain ⟨hcz28_0,hcz28_1,hcz28_2,hcz28_3,hfz28_0,hfz28_1,hfz28_2,hfz28_3⟩ := bR4_ BK430.out))
 refine bodyPost_ret (results_cell_row rfl _ _ gb430 59 #[.slice Ao13 t432.length co13,.slice Ao18 t435.length co18,.slice Ao22 t438.length co22,.slice Ao26 t441.length co26] (0,0) _ rfl (by (with_reducible repeat (first | refine bN_ ?_ _ | refine bD_ ?_ | refine bA_ ?_ _));refine blk_put (cs := #[.slice Ao13 t432.length co13,.slice Ao18 t435.length co18,.slice Ao22 t438.length co22,.slice none 0 0]) ?_ 3 _ rfl;refine blk_put (cs := #[.slice Ao13 t432.length co13,.slice Ao18 t435.length co18,.slice none 0 0,.slice none 0 0]) ?_ 2 _ rfl;refine blk_put (cs := #[.slice Ao13 t432.length co13,.slice none 0 0,.slice none 0 0,.slice none 0 0]) ?_ 1 _ rfl;refine blk_put (cs := #[.slice none 0 0,.slice none 0 0,.slice none 0 0,.slice none 0 0]) ?_ 0 _ rfl;exact rWf_ BK430.out) Try.underlying59 rfl (by kernel_rfl)) rfl ?_
 exact ⟨_,_,_,_,fR_,by (with_reducible repeat (first | apply Kd.S_alloc | apply Kd.S_drewN | apply Kd.S_drew));exact Kd.S_mono (Kd.S_far (p := ⟨gb430,3,none⟩) (Kd.S_far (p := ⟨gb430,2,none⟩) (Kd.S_far (p := ⟨gb430,1,none⟩) (Kd.S_far (p := ⟨gb430,0,none⟩) (Kd.S_far (p := ⟨gb431,3,none⟩) (Kd.S_types (Kd.S_types HO434.out BK431.out (by decide)) BK430.out (by decide)) (fun _ hk => hk.1.2) (.slice Ao26 t441.length co26)) (fun _ hk => hk.2) (.slice Ao13 t432.length co13)) (fun _ hk => hk.2) (.slice Ao18 t435.length co18)) (fun _ hk => hk.2) (.slice Ao22 t438.length co22)) (fun _ hk => hk.2) (.slice Ao26 t441.length co26)) (fun _ hk => trivial),by (with_reducible repeat (first | apply Kd.S_alloc | apply Kd.S_drewN | apply Kd.S_drew));exact Kd.S_mono (Kd.S_far (p := ⟨gb430,3,none⟩) (Kd.S_far (p := ⟨gb430,2,none⟩) (Kd.S_far (p := ⟨gb430,1,none⟩) (Kd.S_far (p := ⟨gb430,0,none⟩) (Kd.S_far (p := ⟨gb431,3,none⟩) (Kd.S_types (Kd.S_types HO437.out BK431.out (by decide)) BK430.out (by decide)) (fun _ hk => hk.1.2) (.slice Ao26 t441.length co26)) (fun _ hk => hk.2) (.slice Ao13 t432.length co13)) (fun _ hk => hk.2) (.slice Ao18 t435.length co18)) (fun _ hk => hk.2) (.slice Ao22 t438.length co22)) (fun _ hk => hk.2) (.slice Ao26 t441.length co26)) (fun _ hk => trivial),by (with_reducible repeat (first | apply rA_ | apply rN_ | apply rD_));exact Kd.R_mono (Kd.R_far (p := ⟨gb430,3,none⟩) (Kd.R_far (p := ⟨gb430,2,none⟩) (Kd.R_far (p := ⟨gb430,1,none⟩) (Kd.R_far (p := ⟨gb430,0,none⟩) (Kd.R_far (p := ⟨gb431,3,none⟩) (Kd.R_types (Kd.R_types HO440.out BK431.out (by decide)) BK430.out (by decide)) (fun _ hk => hk.1.2) (.slice Ao26 t441.length co26)) (fun _ hk => hk.2) (.slice Ao13 t432.length co13)) (fun _ hk => hk.2) (.slice Ao18 t435.length co18)) (fun _ hk => hk.2) (.slice Ao22 t438.length co22)) (fun _ hk => hk.2) (.slice Ao26 t441.length co26)) (fun _ hk => trivial),by (with_reducible repeat (first | apply rA_ | apply rN_ | apply rD_));exact Kd.R_mono (Kd.R_far (p := ⟨gb430,3,none⟩) (Kd.R_far (p := ⟨gb430,2,none⟩) (Kd.R_far (p := ⟨gb430,1,none⟩) (Kd.R_far (p := ⟨gb430,0,none⟩) (Kd.R_far (p := ⟨gb431,3,none⟩) (Kd.R_types (Kd.R_types HO443.out BK431.out (by decide)) BK430.out (by decide)) (fun _ hk => hk.1.2) (.slice Ao26 t441.length co26)) (fun _ hk => hk.2) (.slice Ao13 t432.length co13)) (fun _ hk => hk.2) (.slice Ao18 t435.length co18)) (fun _ hk => hk.2) (.slice Ao22 t438.length co22)) (fun _ hk => hk.2) (.slice Ao26 t441.length co26)) (fun _ hk => trivial),gB_ HB.out⟩
def impl_within.f (a0 : Int) (a1 : Int) (a2 : Int) : Option (Bool) := if a0 ≥ a1 then (some (decide (a0 ≤ a2))) else (some false)
set_option maxHeartbeats 8000000 in
set_option maxRecDepth 100000 in
theorem impl_within.calls (a0 : Int) (a1 : Int) (a2 : Int) (r : Bool) (w : World) (h : impl_within.f a0 a1 a2 = some r) :
  Calls Try.prog 106 #[.int .i64 a0,.int .i64 a1,.int .i64 a2] w fun e w' => e = .returned (.bool r) ∧ Drawn0 w w' := by
 have H : (if a0 ≥ a1 then (some (decide (a0 ≤ a2))) else (some false)) = some r := h
 clear h
 by_cases c4 : a0 ≥ a1
 ·rw [if_pos c4] at H
  have c4b0 : decide (a1 ≤ a0) = true := decide_eq_true c4
  clear c4
  obtain rfl := Option.some.inj H
  go_enter Try.func106,Try.ntmps106
  go_wp2
  go_ret
  exact ⟨by first | rfl | (simp;done) | (simp [*];done),by repeat (first | exact Drawn0.refl _ | apply Drawn0.step)⟩
 ·rw [if_neg c4] at H
  have c4b0 : decide (a1 ≤ a0) = false := decide_eq_false c4
  clear c4
  obtain rfl := Option.some.inj H
  go_enter Try.func106,Try.ntmps106
  go_wp2
  go_ret
  exact ⟨by first | rfl | (simp;done) | (simp [*];done),by repeat (first | exact Drawn0.refl _ | apply Drawn0.step)⟩
def impl_capsOk.l0 : Nat → List Int → Int → Int → Option (Bool)
  | 0,_,_,_ => none
  | k + 1,x5,x6,x7 => if x7 < x6 then (if 0 ≤ x7 then (if x7 < (x5.length : Int) then ((impl_within.f (rd x5 x7) 1 4).bind fun t445 => (if t445 = true then (impl_capsOk.l0 k x5 x6 (wrap64 (x7 + 1))) else (some false))) else (none)) else (none)) else (some true)
def impl_capsOk.f (k : Nat) (l0 : List Int) : Option (Bool) := impl_capsOk.l0 k l0 (l0.length : Int) 0
set_option maxHeartbeats 8000000 in
set_option maxRecDepth 100000 in
theorem impl_capsOk.calls (k : Nat) (A0 : Option Addr) (c0 : Nat) (l0 : List Int) (r : Bool) (w : World) (hr0 : Kd.C (Kd.int .i64) w A0 l0.length l0) (hc0 : l0.length ≤ c0) (h : impl_capsOk.f k l0 = some r) :
  Calls Try.prog 109 #[.slice A0 l0.length c0] w fun e w' => e = .returned (.bool r) ∧ Drawn0 w w' := by
 have HR0 := aM_ hr0
 have HC0 := aM_ hc0
 clear hr0 hc0
 have H : (impl_capsOk.l0 k l0 (l0.length : Int) 0) = some r := h
 clear h
 have H' := aM_ H
 clear H
 go_enter Try.func109,Try.ntmps109
 go_wp2
 go_loopg [7] k (fun kq v7 w' => ∃ (x7_1 : Int),v7 = .int .i64 x7_1 ∧ Aside0 (impl_capsOk.l0 kq l0 (l0.length : Int) x7_1 = some r) ∧ Aside0 (kq ≤ k) ∧ Drawn0 w w')
 case atStart => exact ⟨(0),(by first | rfl | (simp;done) | (simp [*];done)),H',⟨Nat.le_refl _⟩,by repeat (first | exact Drawn0.refl _ | apply Drawn0.step)⟩
 case round =>
  clear H'
  try clear c1
  obtain ⟨x7_1,rfl,HA,HK1,⟨m1,rfl⟩⟩ := hrel
  cases gk with
  | zero => exact absurd HA.out (by simp [impl_capsOk.l0])
  | succ k1 =>
   have H := HA.out
   clear HA
   simp only [impl_capsOk.l0] at H
   by_cases c2 : x7_1 < (l0.length : Int)
   ·rw [if_pos c2] at H
    have c2b0 : decide (x7_1 < (l0.length : Int)) = true := decide_eq_true c2
    clear c2
    by_cases c3 : 0 ≤ x7_1
    ·rw [if_pos c3] at H
     have c3b0 : decide (0 ≤ x7_1) = true := decide_eq_true c3
     clear c3
     by_cases c4 : x7_1 < (l0.length : Int)
     ·rw [if_pos c4] at H
      have c4b0 : decide (x7_1 < (l0.length : Int)) = true := decide_eq_true c4
      clear c4
      replace H := Option.bind_eq_some_iff.mp H
      obtain ⟨t445,A50,H⟩ := H
      replace H : (if t445 = true then (impl_capsOk.l0 k1 l0 (l0.length : Int) (wrap64 (x7_1 + 1))) else (some false)) = some r := H
      have A5 := aM_ A50
      clear A50
      by_cases c6 : t445 = true
      ·subst c6
       have H1 : (impl_capsOk.l0 k1 l0 (l0.length : Int) (wrap64 (x7_1 + 1))) = some r := by rw [if_pos rfl] at H;exact H
       clear H
       have H := H1
       clear H1
       have H' := aM_ H
       clear H
       have p444 : 0 ≤ (x7_1 : Int) := of_decide_eq_true (by first | (with_reducible assumption) | assumption)
       have q444 : x7_1 < (l0.length : Int) := of_decide_eq_true (by first | (with_reducible assumption) | assumption)
       obtain ⟨ad444,e444,hx444_0⟩ := Kd.at_int HR0.out x7_1 p444 q444
       cases e444
       replace p444 := eq_true p444
       replace q444 := eq_true q444
       go_wp2_with (first | ((with_reducible refine gate_callee (f := 106) rfl ?_);refine gL_ (some 12) Try.func106 #[.int .i64 (rd l0 x7_1),.int .i64 1,.int .i64 4] ?_;(with_reducible refine (impl_within.calls (rd l0 x7_1) 1 4 true _ A5.out).mono ?_);rintro e w' ⟨rfl,⟨nd,rfl⟩⟩;refine ⟨_,rfl,?_⟩))
       go_roundg k1
       case measure => have := HK1.out;omega
       case rel => exact ⟨(wrap64 (x7_1 + 1)),(by first | rfl | (simp;done) | (simp [*];done)),H',⟨by have := HK1.out;omega⟩,by repeat (first | exact Drawn0.refl _ | apply Drawn0.step)⟩
      ·replace c6 := Bool.eq_false_iff.mpr c6
       subst c6
       have H1 : (some false) = some r := by rw [if_neg (show ¬ (false = true) by decide)] at H;exact H
       clear H
       have H := H1
       clear H1
       obtain rfl := Option.some.inj H
       have p444 : 0 ≤ (x7_1 : Int) := of_decide_eq_true (by first | (with_reducible assumption) | assumption)
       have q444 : x7_1 < (l0.length : Int) := of_decide_eq_true (by first | (with_reducible assumption) | assumption)
       obtain ⟨ad444,e444,hx444_0⟩ := Kd.at_int HR0.out x7_1 p444 q444
       cases e444
       replace p444 := eq_true p444
       replace q444 := eq_true q444
       go_wp2_with (first | ((with_reducible refine gate_callee (f := 106) rfl ?_);refine gL_ (some 12) Try.func106 #[.int .i64 (rd l0 x7_1),.int .i64 1,.int .i64 4] ?_;(with_reducible refine (impl_within.calls (rd l0 x7_1) 1 4 false _ A5.out).mono ?_);rintro e w' ⟨rfl,⟨nd,rfl⟩⟩;refine ⟨_,rfl,?_⟩))
       go_ret
       exact ⟨by first | rfl | (simp;done) | (simp [*];done),by repeat (first | exact Drawn0.refl _ | apply Drawn0.step)⟩
     ·rw [if_neg c4] at H
      exact absurd H (by simp)
    ·rw [if_neg c3] at H
     exact absurd H (by simp)
   ·rw [if_neg c2] at H
    have c2b0 : decide (x7_1 < (l0.length : Int)) = false := decide_eq_false c2
    clear c2
    obtain rfl := Option.some.inj H
    go_wp2
    go_ret
    exact ⟨by first | rfl | (simp;done) | (simp [*];done),by repeat (first | exact Drawn0.refl _ | apply Drawn0.step)⟩
end Go.Proofs.Ytobachfngmpeiaa.PFnExactChanSame
