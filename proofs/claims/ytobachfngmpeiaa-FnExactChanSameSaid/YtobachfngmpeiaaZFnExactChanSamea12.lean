/- A part of the proof that the law FnExactChanSame holds for every input: the words, functions and walks that its row needs, without a condition of their own. -/
import Derived.Test.YtobachfngmpeiaaZFnExactChanSamea2
import Derived.Test.YtobachfngmpeiaaZFnExactChanSamea3
import Derived.Test.YtobachfngmpeiaaZFnExactChanSamea11
import Derived.Test.YtobachfngmpeiaaZFnExactChanSames
namespace Go.Proofs.Ytobachfngmpeiaa.PFnExactChanSame
open Go.RowKit Go.Proofs.YtobachfngmpeiaaW.PrintWords Go.Proofs.YtobachfngmpeiaaW.PrintLast Go.Proofs.YtobachfngmpeiaaW.PrintMore
attribute [local go_sem] max2_int min2_int max_two min_two max_three min_three max_four min_four   -- for this text's walks alone
set_option linter.unusedVariables false
set_option linter.unusedSimpArgs false
def laws_toChanS.l0 : Nat → List (S186) → List (S94) → Int → Option ((List (S94)))
  | 0,_,_,_ => none
  | k + 1,x0,x3,x4 => if x4 < (x0.length : Int) then (if 0 ≤ x4 then ((laws_toChan.f k ((rd_T186 x0 x4).f0) ((rd_T186 x0 x4).f1) ((rd_T186 x0 x4).f2)).bind fun bt248 => (if x4 < (x3.length : Int) then (laws_toChanS.l0 k x0 (x3.set (x4 : Int).toNat (⟨bt248.1,bt248.2.1,bt248.2.2⟩ : S94)) (wrap64 (x4 + 1))) else (none))) else (none)) else (some x3)
def laws_toChanS.f (k : Nat) (l0 : List (S186)) : Option ((List (S94))) := if 0 ≤ (l0.length : Int) then (if ((l0.length : Int) : Int).toNat ≤ 7036874417766 then (laws_toChanS.l0 k l0 (List.replicate ((l0.length : Int) : Int).toNat z94) 0) else (none)) else (none)
set_option maxHeartbeats 8000000 in
set_option maxRecDepth 100000 in
theorem laws_toChanS.calls (k : Nat) (A0 : Option Addr) (c0 : Nat) (l0 : List (S186)) (r : List (S94)) (w : World) (hr0 : Kd.C k186 w A0 l0.length l0) (hc0 : l0.length ≤ c0) (h : laws_toChanS.f k l0 = some r) :
  Calls Try.prog 96 #[.slice A0 l0.length c0] w fun e w' => ∃ v0_ : Value,e = .returned (v0_) ∧ Kd.S k94 94 w' w.heap.size (fun _ => True) v0_ r ∧ Below w.heap.size w w' := by
 have hu186 := Try.underlying186
 have hu94 := Try.underlying94
 have HR0 := aM_ hr0
 have HC0 := aM_ hc0
 clear hr0 hc0
 have HB := aM_ (Below.refl w.heap.size w)
 have H : (if 0 ≤ (l0.length : Int) then (if ((l0.length : Int) : Int).toNat ≤ 7036874417766 then (laws_toChanS.l0 k l0 (List.replicate ((l0.length : Int) : Int).toNat z94) 0) else (none)) else (none)) = some r := h
 clear h
 by_cases c2 : 0 ≤ (l0.length : Int)
 ·rw [if_pos c2] at H
  have c2b0 := eq_true c2
  have c2b1 : decide (0 ≤ (l0.length : Int)) = true := decide_eq_true c2
  clear c2
  by_cases c3 : ((l0.length : Int) : Int).toNat ≤ 7036874417766
  ·rw [if_pos c3] at H
   have c3b0 := eq_true c3
   have c3b1 : decide (((l0.length : Int) : Int).toNat ≤ 7036874417766) = true := decide_eq_true c3
   clear c3
   obtain ⟨y244,hy244⟩ : ∃ y_ : List (S94),y_ = (List.replicate ((l0.length : Int) : Int).toNat z94) := ⟨_,rfl⟩
   replace H : (laws_toChanS.l0 k l0 y244 0) = some r := by first | (rw [hy244];with_reducible exact H) | (have H2_ := (Option.bind_some _ _).symm.trans H;rw [hy244];with_reducible exact H2_) | (have H2_ := (Option.bind_some _ _).symm.trans H;with_reducible exact H2_) | with_reducible exact H | (rw [hy244];exact H) | exact H
   have Ny244 := aM_ hy244
   clear hy244
   have H' := aM_ H
   clear H
   go_enter Try.func96,Try.ntmps96
   go_wp2_with (first | ((with_reducible refine gate_dst (N := 7) rfl ?_);refine Kd.S_make k94 _ 94 rfl (N := 7) rfl 25 _ _ rfl (l0.length : Int) rfl rfl Try.underlying25 (.agg #[(.int .i64 0),(.slice none 0 0),(.bool false)]) 40 info94 rfl (by decide) (by omega) z94 (ok := fun _ => True) (okp := fun _ => True) (k94_mkM _ _ _ z94 (Kd.R_nil _ _ _ _ _)) (fun _ hk => hk) trivial (of_decide_eq_true (by first | (with_reducible assumption) | assumption)) (Nat.le_trans (Nat.mul_le_mul_right _ (of_decide_eq_true (by first | (with_reducible assumption) | assumption) : (l0.length : Int).toNat ≤ 7036874417766)) (by omega)) (Below.refl _ _) (Nat.le_refl _) ?_;intro v245 w4 ho5 hb hg_ hnew_;clear hg_ hnew_;(first | rw [← Ny244.out] at ho5 | (simp only [Int.reduceToNat] at ho5;rw [← Ny244.out] at ho5));have n0 := aM_ (Kd.S_lower ho5 (below_size (gB_ HB.out)));have n1 := aM_ (sT_ HB.out hb);clear HB;have HO246 := n0;have HB := n1;clear n0 n1;clear hb ho5))
   go_loopg [4] k (fun kq v4 w' => ∃ (x3_1 : List (S94)) (x4_1 : Int),v4 = .int .i64 x4_1 ∧ Aside0 (laws_toChanS.l0 kq l0 x3_1 x4_1 = some r) ∧ Aside0 (kq ≤ k) ∧ Aside0 (Kd.S k94 94 w' w.heap.size (fun _ => True) v245 x3_1) ∧ Aside0 (Below w.heap.size w w'))
   case atStart => exact ⟨(y244),(0),(by first | rfl | (simp;done) | (simp [*];done)),H',⟨Nat.le_refl _⟩,⟨by (with_reducible repeat (first | apply Kd.S_alloc | apply Kd.S_drewN | apply Kd.S_drew));exact HO246.out⟩,⟨gW_ HB.out⟩⟩
   case round =>
    clear H'
    try clear c2
    try clear c2b0
    try clear c2b1
    try clear p2
    try clear c3
    try clear c3b0
    try clear c3b1
    obtain ⟨x3_1,x4_1,rfl,HA,HK1,HO_3,HB⟩ := hrel
    cases gk with
    | zero => exact absurd HA.out (by simp [laws_toChanS.l0])
    | succ k1 =>
     have H := HA.out
     clear HA
     simp only [laws_toChanS.l0] at H
     by_cases c6 : x4_1 < (l0.length : Int)
     ·rw [if_pos c6] at H
      have c6b0 : decide (x4_1 < (l0.length : Int)) = true := decide_eq_true c6
      clear c6
      by_cases c7 : 0 ≤ x4_1
      ·rw [if_pos c7] at H
       have c7b0 : decide (0 ≤ x4_1) = true := decide_eq_true c7
       clear c7
       replace H := Option.bind_eq_some_iff.mp H
       obtain ⟨⟨t248,t249,t252⟩,A80,H⟩ := H
       replace H : (if x4_1 < (x3_1.length : Int) then (laws_toChanS.l0 k1 l0 (x3_1.set (x4_1 : Int).toNat (⟨t248,t249,t252⟩ : S94)) (wrap64 (x4_1 + 1))) else (none)) = some r := H
       have A8 := aM_ A80
       clear A80
       by_cases c9 : x4_1 < (x3_1.length : Int)
       ·rw [if_pos c9] at H
        have c9b0 : decide (x4_1 < (x3_1.length : Int)) = true := decide_eq_true c9
        clear c9
        obtain ⟨y253,hy253⟩ : ∃ y_ : List (S94),y_ = (x3_1.set (x4_1 : Int).toNat (⟨t248,t249,t252⟩ : S94)) := ⟨_,rfl⟩
        replace H : (laws_toChanS.l0 k1 l0 y253 (wrap64 (x4_1 + 1))) = some r := by first | (rw [hy253];with_reducible exact H) | (have H2_ := (Option.bind_some _ _).symm.trans H;rw [hy253];with_reducible exact H2_) | (have H2_ := (Option.bind_some _ _).symm.trans H;with_reducible exact H2_) | with_reducible exact H | (rw [hy253];exact H) | exact H
        have Ny253 := aM_ hy253
        clear hy253
        have H' := aM_ H
        clear H
        have p247 : 0 ≤ (x4_1 : Int) := of_decide_eq_true (by first | (with_reducible assumption) | assumption)
        have q247 : x4_1 < (l0.length : Int) := of_decide_eq_true (by first | (with_reducible assumption) | assumption)
        obtain ⟨ad247,A247_1,c247_1,e247,hx247_0,hx247_1,hx247_2,hl247_1,hi247_1⟩ := at_T186 HR0.out x4_1 p247 q247
        cases e247
        replace hx247_0 := cB_ HB.out hx247_0
        replace hx247_1 := cB_ HB.out hx247_1
        replace hx247_2 := cB_ HB.out hx247_2
        have HR247_1 := aM_ hi247_1
        have HC247_1 := aM_ hl247_1
        clear hi247_1 hl247_1
        replace p247 := eq_true p247
        replace q247 := eq_true q247
        go_wp2_with (first | ((with_reducible refine gate_callee (f := 148) rfl ?_);refine gL_ (some 20) Try.func148 #[.agg #[.int .i64 ((rd_T186 l0 x4_1).f0),.slice A247_1 ((rd_T186 l0 x4_1).f1).length c247_1,.bool ((rd_T186 l0 x4_1).f2)]] ?_;(with_reducible refine (laws_toChan.calls k1 ((rd_T186 l0 x4_1).f0) _ _ ((rd_T186 l0 x4_1).f1) ((rd_T186 l0 x4_1).f2) t248 t249 t252 _ ?side1 ?side2 A8.out).mono ?_);(case side1 => exact cS_ (Kd.C_below HR247_1.out HB.out));(case side2 => exact HC247_1.out);rintro e w11 ⟨v250,rfl,ho0,hb⟩;refine ⟨_,rfl,?_⟩;have n0 := aM_ (Kd.S_elder' (by (with_reducible repeat (first | apply Kd.S_alloc | apply Kd.S_drewN | apply Kd.S_drew));exact HO_3.out) (Kd.R_base ho0) hb);have n1 := aM_ (Kd.R_lower ho0 (below_size (gB_ HB.out)));have n2 := aM_ (sT_ HB.out hb);clear HO_3;clear HB;have HO_3 := n0;have HO251 := n1;have HB := n2;clear n0 n1 n2;(try clear ho0);have p10 : 0 ≤ (x4_1 : Int) := of_decide_eq_true (by first | (with_reducible assumption) | assumption);have q10 : (x4_1 : Int) < ((x3_1.length : Int) : Int) := of_decide_eq_true (by first | (with_reducible assumption) | assumption);obtain ⟨go10,co10,eo10,gb10,gl10,cl10,HG10⟩ := Kd.S_form HO_3.out (by omega);(first | cases eo10 | (injection eo10 with ea_ en_ ec_;(first | subst ea_ | (injection ea_ with ea_;subst ea_));subst ec_;clear en_));have GB10 := aM_ gb10;have GG10 := aM_ HG10;clear gb10 gl10 HG10;obtain ⟨_,ce10,hcl10,hM10,hcc10,hfr10,_,_⟩ := Kd.S_elem HO_3.out z94 (x4_1 : Int) p10 q10;obtain ⟨ve10_1,rfl,ge10_1⟩ := k94_openM hM10;have hx10_0 : w11.cell? ⟨go10,(x4_1 : Int).toNat * 3,none⟩ = some (.int .i64 ((rd_T94 x3_1 x4_1).f0)) := hcc10 0 _ rfl;have hx10_1 : w11.cell? ⟨go10,(x4_1 : Int).toNat * 3 + 1,none⟩ = some (ve10_1) := hcc10 1 _ rfl;have hx10_2 : w11.cell? ⟨go10,(x4_1 : Int).toNat * 3 + 2,none⟩ = some (.bool ((rd_T94 x3_1 x4_1).f2)) := hcc10 2 _ rfl;have hf10_0 : w11.frozen? ⟨go10,(x4_1 : Int).toNat * 3,none⟩ = false := hfr10 0;have hf10_1 : w11.frozen? ⟨go10,(x4_1 : Int).toNat * 3 + 1,none⟩ = false := hfr10 1;have hf10_2 : w11.frozen? ⟨go10,(x4_1 : Int).toNat * 3 + 2,none⟩ = false := hfr10 2;(try clear hcl10);(try clear hcc10);(try clear hfr10);(try clear hM10);replace p10 := eq_true p10;replace q10 := eq_true q10;have n_ := aM_ (Kd.S_mono (ok' := (fun k_ => some k_ ≠ (v250 : Value).ownBlock)) HO_3.out (fun k_ hk => hk.2));clear HO_3;have HO_3 := n_;clear n_;have HX12 := aM_ (show Kd.S k94 94 w11 w.heap.size (fun k_ => ((fun _ => True)) k_ ∧ ¬ ((fun k_ => some k_ = (v250 : Value).ownBlock)) k_) (.slice (some ⟨go10,0,none⟩) x3_1.length co10) x3_1 from (by (with_reducible repeat (first | apply Kd.S_alloc | apply Kd.S_drewN | apply Kd.S_drew));exact Kd.S_mono HO_3.out (fun k_ hk => ⟨trivial,fun e_ => hk e_⟩)));obtain ⟨oki12,ce12,hcl12,hM12,hcc12,hfr12,hoki12,hH12⟩ := Kd.S_elem HX12.out z94 (x4_1 : Int) (of_decide_eq_true (by first | (with_reducible assumption) | assumption)) (by have h_ : (x4_1 : Int) < ((x3_1.length : Int) : Int) := of_decide_eq_true (by first | (with_reducible assumption) | assumption);first | exact h_ | (have e_ := (Kd.S_reads' HO_3.out).1;omega) | simpa using h_);obtain ⟨ve12_1,rfl,ge12_1⟩ := k94_openM hM12;have HP12 := Kd.S_seg hH12 (of_decide_eq_true (by first | (with_reducible assumption) | assumption)) (by have h_ : (x4_1 : Int) < ((x3_1.length : Int) : Int) := of_decide_eq_true (by first | (with_reducible assumption) | assumption);first | exact h_ | (have e_ := (Kd.S_reads' HO_3.out).1;omega) | simpa using h_) (seg := [.int .i64 t248,v250,.bool t252]) (j := 0) (show 3 ≤ 3 from by decide) (x' := (⟨t248,t249,t252⟩ : S94)) (k94_mkM _ _ _ (⟨t248,t249,t252⟩ : S94) (Kd.R_mono (Kd.R_tight rfl (Kd.R_mono (ok' := fun k_ => ((fun _ => True)) k_ ∧ k_ ≠ go10) (Kd.R_apart' (HO251.out) (Kd.S_typed HO_3.out) (by decide)) (fun k_ hk => ⟨trivial,fun e_ => (hk.2) (by rw [e_];rfl)⟩))) (fun _ h_ => Or.inr (h_)))) (fun _ hk => hk) (fun k_ hk_ => ((Kd.R_mono (ok' := fun k_ => ((fun _ => True)) k_ ∧ k_ ≠ go10) (Kd.R_apart' (HO251.out) (Kd.S_typed HO_3.out) (by decide)) (fun k_ hk => ⟨trivial,fun e_ => (hk.2) (by rw [e_];rfl)⟩))).1 k_ hk_.symm);have hx12_0 := hcc12 0 _ rfl;(try simp only [show (k94).sz = 3 from rfl,Nat.mul_one,Nat.add_zero] at hx12_0);have hf12_0 := hfr12 0;(try simp only [show (k94).sz = 3 from rfl,Nat.mul_one,Nat.add_zero] at hf12_0);have hx12_1 := hcc12 1 _ rfl;(try simp only [show (k94).sz = 3 from rfl,Nat.mul_one,Nat.add_zero] at hx12_1);have hf12_1 := hfr12 1;(try simp only [show (k94).sz = 3 from rfl,Nat.mul_one,Nat.add_zero] at hf12_1);have hx12_2 := hcc12 2 _ rfl;(try simp only [show (k94).sz = 3 from rfl,Nat.mul_one,Nat.add_zero] at hx12_2);have hf12_2 := hfr12 2;(try simp only [show (k94).sz = 3 from rfl,Nat.mul_one,Nat.add_zero] at hf12_2);(try clear hcl12);(try clear hcc12);(try clear hfr12);(try clear hM12);(try clear hoki12);(try clear hH12)) | ((with_reducible refine gate_store (t := 94) (p := 21) rfl ?_);refine store_event (t := 94) (p := 21) (v := ?vo_w13) (w1 := (((w11.setCell ⟨go10,(x4_1 : Int).toNat * 3,none⟩ (.int .i64 t248)).setCell ⟨go10,(x4_1 : Int).toNat * 3 + 1,none⟩ (v250)).setCell ⟨go10,(x4_1 : Int).toNat * 3 + 2,none⟩ (.bool t252))) ?hg ?ho ?hn ?hr ?_;(case ho => rfl);(case hg => rfl);(case hn => rfl);(case hr => first | (go_simp;done) | (go_simp;rfl) | (obtain ⟨_,_,e_⟩ := Kd.R_slice HO251.out;rw [e_];first | (go_simp;done) | (go_simp;rfl)) | (obtain ⟨_,_,e_⟩ := Kd.S_slice HO251.out;rw [e_];first | (go_simp;done) | (go_simp;rfl)) | (obtain ⟨_,_,e_⟩ := Kd.Q_slice HO251.out;rw [e_];first | (go_simp;done) | (go_simp;rfl)) | (obtain ⟨_,_,e_⟩ := Kd.N_slice HO251.out;rw [e_];first | (go_simp;done) | (go_simp;rfl)));intro w13 hw;have hg : w11.grownBy w13 (some go10) := (by rw [hw];exact HP12.2);have hp_ : Kd.S k94 94 w13 w.heap.size (fun _ => True) (.slice (some ⟨go10,0,none⟩) x3_1.length co10) y253 := (by rw [hw,Ny253.out];exact HP12.1);clear HP12;have n0 := aM_ (hp_);have n1 := aM_ ((by rw [hw];exact below_set (below_set (below_set (HB.out) GB10.out) GB10.out) GB10.out : Below w.heap.size w w13));clear HO_3;clear HB;clear HO251;have HO_3 := n0;have HB := n1;clear n0 n1;clear hg hw hp_))
        go_roundg k1
        case measure => have := HK1.out;omega
        case rel => exact ⟨(y253),(wrap64 (x4_1 + 1)),(by first | rfl | (simp;done) | (simp [*];done)),H',⟨by have := HK1.out;omega⟩,⟨by (with_reducible repeat (first | apply Kd.S_alloc | apply Kd.S_drewN | apply Kd.S_drew));exact HO_3.out⟩,⟨gW_ HB.out⟩⟩
       ·rw [if_neg c9] at H
        exact absurd H (by simp)
      ·rw [if_neg c7] at H
       exact absurd H (by simp)
     ·rw [if_neg c6] at H
      have c6b0 : decide (x4_1 < (l0.length : Int)) = false := decide_eq_false c6
      clear c6
      obtain rfl := Option.some.inj H
      go_wp2
      go_ret
      exact ⟨_,fR_,by (with_reducible repeat (first | apply Kd.S_alloc | apply Kd.S_drewN | apply Kd.S_drew));exact HO_3.out,gB_ HB.out⟩
  ·rw [if_neg c3] at H
   exact absurd H (by simp)
 ·rw [if_neg c2] at H
  exact absurd H (by simp)
def laws_toNote.f (a0_0 : Int) (a0_1 : Int) : Option (Int × Int) := some (a0_0,a0_1)
set_option maxHeartbeats 8000000 in
set_option maxRecDepth 100000 in
theorem laws_toNote.calls (a0_0 : Int) (a0_1 : Int) (r1 : Int) (r2 : Int) (w : World) (h : laws_toNote.f a0_0 a0_1 = some (r1,r2)) :
  Calls Try.prog 149 #[.agg #[.int .i64 a0_0,.int .i64 a0_1]] w fun e w' => e = .returned (.agg #[.int .i64 r1,.int .i64 r2]) ∧ Below w.heap.size w w' := by
 have hu190 := Try.underlying190
 have hu35 := Try.underlying35
 have HB := aM_ (Below.refl w.heap.size w)
 have H : (some (a0_0,a0_1)) = some (r1,r2) := h
 clear h
 simp only [Option.some.injEq,Prod.mk.injEq] at H
 obtain ⟨rfl,rfl⟩ := H
 go_enter Try.func149,Try.ntmps149
 go_wp2_with (first | ((with_reducible refine gate_dst (N := 1) rfl ?_);refine bX_ 1 (cs := #[.int .i64 a0_0,.int .i64 a0_1]) (t := 190) ?_;intro gb254 hg w2 hbox hb;have n0 := aM_ (sT_ HB.out hb);have n1 := aM_ (hbox);have n2 := aM_ (sZ_ hg HB.out);have n3 := aM_ (sZ_ hg HB.out);clear HB;have HB := n0;have BK254 := n1;have GW254 := n2;have GE254 := n3;clear n0 n1 n2 n3;clear hb hbox hg) | ((with_reducible refine gate_dst (N := 2) rfl ?_);refine bX_ 2 (cs := #[.int .i64 0,.int .i64 0]) (t := 35) ?_;intro gb255 hg w3 hbox hb;have n0 := aM_ (nB_ BK254.out hb);have n1 := aM_ (sT_ HB.out hb);have n2 := aM_ (hbox);have n3 := aM_ (sZ_ hg HB.out);have n4 := aM_ (sZ_ hg HB.out);have n5 := aM_ (nL_ hg BK254.out);have n6 := aM_ (nG_ hg BK254.out);clear BK254;clear HB;have BK254 := n0;have HB := n1;have BK255 := n2;have GW255 := n3;have GE255 := n4;have NB254_255 := n5;have NB255_254 := n6;clear n0 n1 n2 n3 n4 n5 n6;clear hb hbox hg) | ((with_reducible refine gate_dst (N := 3) rfl ?_);refine bX_ 3 (cs := #[.int .i64 0,.int .i64 0]) (t := 35) ?_;intro gb256 hg w4 hbox hb;have n0 := aM_ (nB_ BK254.out hb);have n1 := aM_ (nB_ BK255.out hb);have n2 := aM_ (sT_ HB.out hb);have n3 := aM_ (hbox);have n4 := aM_ (sZ_ hg HB.out);have n5 := aM_ (sZ_ hg HB.out);have n6 := aM_ (nL_ hg BK254.out);have n7 := aM_ (nG_ hg BK254.out);have n8 := aM_ (nL_ hg BK255.out);have n9 := aM_ (nG_ hg BK255.out);clear BK254;clear BK255;clear HB;have BK254 := n0;have BK255 := n1;have HB := n2;have BK256 := n3;have GW256 := n4;have GE256 := n5;have NB254_256 := n6;have NB256_254 := n7;have NB255_256 := n8;have NB256_255 := n9;clear n0 n1 n2 n3 n4 n5 n6 n7 n8 n9;clear hb hbox hg;have hnb5 := NB254_255.out;have hnc5 := NB255_254.out;have hnb6 := NB254_256.out;have hnc6 := NB256_254.out;obtain ⟨hcz7_0,hcz7_1,hfz7_0,hfz7_1⟩ := bR2_ BK254.out;have hnb8 := NB256_255.out;have hnc8 := NB255_256.out;obtain ⟨hcz9_0,hcz9_1,hfz9_0,hfz9_1⟩ := bR2_ BK256.out;obtain ⟨hcz10_0,hcz10_1,hfz10_0,hfz10_1⟩ := bR2_ BK255.out))
 refine bodyPost_ret (results_cell_row rfl _ _ gb255 35 #[.int .i64 a0_0,.int .i64 a0_1] (0,0) _ rfl (by (with_reducible repeat (first | refine bN_ ?_ _ | refine bD_ ?_ | refine bA_ ?_ _));refine blk_put (cs := #[.int .i64 a0_0,.int .i64 0]) ?_ 1 _ rfl;refine blk_put (cs := #[.int .i64 0,.int .i64 0]) ?_ 0 _ rfl;exact rWf_ BK255.out) Try.underlying35 rfl (by kernel_rfl)) rfl ?_
 exact fI_ HB.out
def laws_toNoteS.l0 : Nat → List (S190) → List (S35) → Int → Option ((List (S35)))
  | 0,_,_,_ => none
  | k + 1,x0,x3,x4 => if x4 < (x0.length : Int) then (if 0 ≤ x4 then ((laws_toNote.f ((rd_T190 x0 x4).f0) ((rd_T190 x0 x4).f1)).bind fun bt261 => (if x4 < (x3.length : Int) then (laws_toNoteS.l0 k x0 (x3.set (x4 : Int).toNat (⟨bt261.1,bt261.2⟩ : S35)) (wrap64 (x4 + 1))) else (none))) else (none)) else (some x3)
def laws_toNoteS.f (k : Nat) (l0 : List (S190)) : Option ((List (S35))) := if 0 ≤ (l0.length : Int) then (if ((l0.length : Int) : Int).toNat ≤ 17592186044416 then (laws_toNoteS.l0 k l0 (List.replicate ((l0.length : Int) : Int).toNat z35) 0) else (none)) else (none)
set_option maxHeartbeats 8000000 in
set_option maxRecDepth 100000 in
theorem laws_toNoteS.calls (k : Nat) (A0 : Option Addr) (c0 : Nat) (l0 : List (S190)) (r : List (S35)) (w : World) (hr0 : Kd.C k190 w A0 l0.length l0) (hc0 : l0.length ≤ c0) (h : laws_toNoteS.f k l0 = some r) :
  Calls Try.prog 97 #[.slice A0 l0.length c0] w fun e w' => ∃ v0_ : Value,e = .returned (v0_) ∧ Kd.R k35 35 w' w.heap.size (fun _ => True) v0_ r ∧ Below w.heap.size w w' := by
 have hu190 := Try.underlying190
 have hu35 := Try.underlying35
 have HR0 := aM_ hr0
 have HC0 := aM_ hc0
 clear hr0 hc0
 have HB := aM_ (Below.refl w.heap.size w)
 have H : (if 0 ≤ (l0.length : Int) then (if ((l0.length : Int) : Int).toNat ≤ 17592186044416 then (laws_toNoteS.l0 k l0 (List.replicate ((l0.length : Int) : Int).toNat z35) 0) else (none)) else (none)) = some r := h
 clear h
 by_cases c2 : 0 ≤ (l0.length : Int)
 ·rw [if_pos c2] at H
  have c2b0 := eq_true c2
  have c2b1 : decide (0 ≤ (l0.length : Int)) = true := decide_eq_true c2
  clear c2
  by_cases c3 : ((l0.length : Int) : Int).toNat ≤ 17592186044416
  ·rw [if_pos c3] at H
   have c3b0 := eq_true c3
   have c3b1 : decide (((l0.length : Int) : Int).toNat ≤ 17592186044416) = true := decide_eq_true c3
   clear c3
   obtain ⟨y257,hy257⟩ : ∃ y_ : List (S35),y_ = (List.replicate ((l0.length : Int) : Int).toNat z35) := ⟨_,rfl⟩
   replace H : (laws_toNoteS.l0 k l0 y257 0) = some r := by first | (rw [hy257];with_reducible exact H) | (have H2_ := (Option.bind_some _ _).symm.trans H;rw [hy257];with_reducible exact H2_) | (have H2_ := (Option.bind_some _ _).symm.trans H;with_reducible exact H2_) | with_reducible exact H | (rw [hy257];exact H) | exact H
   have Ny257 := aM_ hy257
   clear hy257
   have H' := aM_ H
   clear H
   go_enter Try.func97,Try.ntmps97
   go_wp2_with (first | ((with_reducible refine gate_dst (N := 7) rfl ?_);refine Kd.R_make k35 _ 35 rfl (N := 7) rfl 26 _ _ rfl (l0.length : Int) rfl rfl Try.underlying26 (.agg #[(.int .i64 0),(.int .i64 0)]) 16 info35 rfl (by decide) (by omega) z35 (ok := fun _ => True) (okp := fun _ => True) (k35_mkM _ _ _ z35 ) (fun _ hk => hk) trivial (of_decide_eq_true (by first | (with_reducible assumption) | assumption)) (Nat.le_trans (Nat.mul_le_mul_right _ (of_decide_eq_true (by first | (with_reducible assumption) | assumption) : (l0.length : Int).toNat ≤ 17592186044416)) (by omega)) (Below.refl _ _) (Nat.le_refl _) ?_;intro v258 w4 ho5 hb hg_ hnew_;clear hg_ hnew_;(first | rw [← Ny257.out] at ho5 | (simp only [Int.reduceToNat] at ho5;rw [← Ny257.out] at ho5));have n0 := aM_ (Kd.R_lower ho5 (below_size (gB_ HB.out)));have n1 := aM_ (sT_ HB.out hb);clear HB;have HO259 := n0;have HB := n1;clear n0 n1;clear hb ho5))
   go_loopg [4] k (fun kq v4 w' => ∃ (x3_1 : List (S35)) (x4_1 : Int),v4 = .int .i64 x4_1 ∧ Aside0 (laws_toNoteS.l0 kq l0 x3_1 x4_1 = some r) ∧ Aside0 (kq ≤ k) ∧ Aside0 (Kd.R k35 35 w' w.heap.size (fun _ => True) v258 x3_1) ∧ Aside0 (Below w.heap.size w w'))
   case atStart => exact ⟨(y257),(0),(by first | rfl | (simp;done) | (simp [*];done)),H',⟨Nat.le_refl _⟩,⟨by (with_reducible repeat (first | apply rA_ | apply rN_ | apply rD_));exact HO259.out⟩,⟨gW_ HB.out⟩⟩
   case round =>
    clear H'
    try clear c2
    try clear c2b0
    try clear c2b1
    try clear p2
    try clear c3
    try clear c3b0
    try clear c3b1
    obtain ⟨x3_1,x4_1,rfl,HA,HK1,HO_3,HB⟩ := hrel
    cases gk with
    | zero => exact absurd HA.out (by simp [laws_toNoteS.l0])
    | succ k1 =>
     have H := HA.out
     clear HA
     simp only [laws_toNoteS.l0] at H
     by_cases c6 : x4_1 < (l0.length : Int)
     ·rw [if_pos c6] at H
      have c6b0 : decide (x4_1 < (l0.length : Int)) = true := decide_eq_true c6
      clear c6
      by_cases c7 : 0 ≤ x4_1
      ·rw [if_pos c7] at H
       have c7b0 : decide (0 ≤ x4_1) = true := decide_eq_true c7
       clear c7
       replace H := Option.bind_eq_some_iff.mp H
       obtain ⟨⟨t261,t262⟩,A80,H⟩ := H
       replace H : (if x4_1 < (x3_1.length : Int) then (laws_toNoteS.l0 k1 l0 (x3_1.set (x4_1 : Int).toNat (⟨t261,t262⟩ : S35)) (wrap64 (x4_1 + 1))) else (none)) = some r := H
       have A8 := aM_ A80
       clear A80
       by_cases c9 : x4_1 < (x3_1.length : Int)
       ·rw [if_pos c9] at H
        have c9b0 : decide (x4_1 < (x3_1.length : Int)) = true := decide_eq_true c9
        clear c9
        obtain ⟨y263,hy263⟩ : ∃ y_ : List (S35),y_ = (x3_1.set (x4_1 : Int).toNat (⟨t261,t262⟩ : S35)) := ⟨_,rfl⟩
        replace H : (laws_toNoteS.l0 k1 l0 y263 (wrap64 (x4_1 + 1))) = some r := by first | (rw [hy263];with_reducible exact H) | (have H2_ := (Option.bind_some _ _).symm.trans H;rw [hy263];with_reducible exact H2_) | (have H2_ := (Option.bind_some _ _).symm.trans H;with_reducible exact H2_) | with_reducible exact H | (rw [hy263];exact H) | exact H
        have Ny263 := aM_ hy263
        clear hy263
        have H' := aM_ H
        clear H
        have p260 : 0 ≤ (x4_1 : Int) := of_decide_eq_true (by first | (with_reducible assumption) | assumption)
        have q260 : x4_1 < (l0.length : Int) := of_decide_eq_true (by first | (with_reducible assumption) | assumption)
        obtain ⟨ad260,e260,hx260_0,hx260_1⟩ := at_T190 HR0.out x4_1 p260 q260
        cases e260
        replace hx260_0 := cB_ HB.out hx260_0
        replace hx260_1 := cB_ HB.out hx260_1
        replace p260 := eq_true p260
        replace q260 := eq_true q260
        go_wp2_with (first | ((with_reducible refine gate_callee (f := 149) rfl ?_);refine gL_ (some 20) Try.func149 #[.agg #[.int .i64 ((rd_T190 l0 x4_1).f0),.int .i64 ((rd_T190 l0 x4_1).f1)]] ?_;(with_reducible refine (laws_toNote.calls ((rd_T190 l0 x4_1).f0) ((rd_T190 l0 x4_1).f1) t261 t262 _ A8.out).mono ?_);rintro e w11 ⟨rfl,hb⟩;refine ⟨_,rfl,?_⟩;have n0 := aM_ (bR_ HO_3.out hb);have n1 := aM_ (sT_ HB.out hb);clear HO_3;clear HB;have HO_3 := n0;have HB := n1;clear n0 n1;have p10 : 0 ≤ (x4_1 : Int) := of_decide_eq_true (by first | (with_reducible assumption) | assumption);have q10 : (x4_1 : Int) < ((x3_1.length : Int) : Int) := of_decide_eq_true (by first | (with_reducible assumption) | assumption);obtain ⟨go10,co10,eo10,gb10,gl10,cl10,HG10⟩ := Kd.R_form HO_3.out (by omega);(first | cases eo10 | (injection eo10 with ea_ en_ ec_;(first | subst ea_ | (injection ea_ with ea_;subst ea_));subst ec_;clear en_));have GB10 := aM_ gb10;have GG10 := aM_ HG10;clear gb10 gl10 HG10;obtain ⟨ce10,hcl10,hM10,hcc10,hfr10⟩ := Kd.R_elem HO_3.out z35 (x4_1 : Int) p10 q10;obtain rfl := k35_openM hM10;have hx10_0 : w11.cell? ⟨go10,(x4_1 : Int).toNat * 2,none⟩ = some (.int .i64 ((rd_T35 x3_1 x4_1).f0)) := hcc10 0 _ rfl;have hx10_1 : w11.cell? ⟨go10,(x4_1 : Int).toNat * 2 + 1,none⟩ = some (.int .i64 ((rd_T35 x3_1 x4_1).f1)) := hcc10 1 _ rfl;have hf10_0 : w11.frozen? ⟨go10,(x4_1 : Int).toNat * 2,none⟩ = false := hfr10 0;have hf10_1 : w11.frozen? ⟨go10,(x4_1 : Int).toNat * 2 + 1,none⟩ = false := hfr10 1;(try clear hcl10);(try clear hcc10);(try clear hfr10);(try clear hM10);replace p10 := eq_true p10;replace q10 := eq_true q10;have HX12 := aM_ (show Kd.R k35 35 w11 w.heap.size (fun _ => True) (.slice (some ⟨go10,0,none⟩) x3_1.length co10) x3_1 from (by (with_reducible repeat (first | apply rA_ | apply rN_ | apply rD_));exact HO_3.out));obtain ⟨ce12,hcl12,hM12,hcc12,hfr12⟩ := Kd.R_elem HX12.out z35 (x4_1 : Int) (of_decide_eq_true (by first | (with_reducible assumption) | assumption)) (by have h_ : (x4_1 : Int) < ((x3_1.length : Int) : Int) := of_decide_eq_true (by first | (with_reducible assumption) | assumption);first | exact h_ | (have e_ := (Kd.R_reads' HO_3.out).1;omega) | simpa using h_);obtain rfl := k35_openM hM12;have HP12 := Kd.R_seg HX12.out (x4_1 : Int) (of_decide_eq_true (by first | (with_reducible assumption) | assumption)) (by have h_ : (x4_1 : Int) < ((x3_1.length : Int) : Int) := of_decide_eq_true (by first | (with_reducible assumption) | assumption);first | exact h_ | (have e_ := (Kd.R_reads' HO_3.out).1;omega) | simpa using h_) (seg := [.int .i64 t261,.int .i64 t262]) (j := 0) hcl12 hcc12 (show 2 ≤ 2 from by decide) (x' := (⟨t261,t262⟩ : S35)) (k35_mkM _ _ _ (⟨t261,t262⟩ : S35) ) (fun _ hk => hk);have hx12_0 := hcc12 0 _ rfl;(try simp only [show (k35).sz = 2 from rfl,Nat.mul_one,Nat.add_zero] at hx12_0);have hf12_0 := hfr12 0;(try simp only [show (k35).sz = 2 from rfl,Nat.mul_one,Nat.add_zero] at hf12_0);have hx12_1 := hcc12 1 _ rfl;(try simp only [show (k35).sz = 2 from rfl,Nat.mul_one,Nat.add_zero] at hx12_1);have hf12_1 := hfr12 1;(try simp only [show (k35).sz = 2 from rfl,Nat.mul_one,Nat.add_zero] at hf12_1);(try clear hcl12);(try clear hcc12);(try clear hfr12);(try clear hM12)) | ((with_reducible refine gate_store (t := 35) (p := 21) rfl ?_);refine store_event (t := 35) (p := 21) (v := ?vo_w13) (w1 := ((w11.setCell ⟨go10,(x4_1 : Int).toNat * 2,none⟩ (.int .i64 t261)).setCell ⟨go10,(x4_1 : Int).toNat * 2 + 1,none⟩ (.int .i64 t262))) ?hg ?ho ?hn ?hr ?_;(case ho => rfl);(case hg => rfl);(case hn => rfl);(case hr => first | (go_simp;done) | (go_simp;rfl));intro w13 hw;have hg : w11.grownBy w13 (some go10) := (by rw [hw];exact HP12.2);have hp_ : Kd.R k35 35 w13 w.heap.size (fun _ => True) (.slice (some ⟨go10,0,none⟩) x3_1.length co10) y263 := (by rw [hw,Ny263.out];exact HP12.1);clear HP12;have n0 := aM_ (hp_);have n1 := aM_ ((by rw [hw];exact below_set (below_set (HB.out) GB10.out) GB10.out : Below w.heap.size w w13));clear HO_3;clear HB;have HO_3 := n0;have HB := n1;clear n0 n1;clear hg hw hp_))
        go_roundg k1
        case measure => have := HK1.out;omega
        case rel => exact ⟨(y263),(wrap64 (x4_1 + 1)),(by first | rfl | (simp;done) | (simp [*];done)),H',⟨by have := HK1.out;omega⟩,⟨by (with_reducible repeat (first | apply rA_ | apply rN_ | apply rD_));exact HO_3.out⟩,⟨gW_ HB.out⟩⟩
       ·rw [if_neg c9] at H
        exact absurd H (by simp)
      ·rw [if_neg c7] at H
       exact absurd H (by simp)
     ·rw [if_neg c6] at H
      have c6b0 : decide (x4_1 < (l0.length : Int)) = false := decide_eq_false c6
      clear c6
      obtain rfl := Option.some.inj H
      go_wp2
      go_ret
      exact ⟨_,fR_,by (with_reducible repeat (first | apply rA_ | apply rN_ | apply rD_));exact HO_3.out,gB_ HB.out⟩
  ·rw [if_neg c3] at H
   exact absurd H (by simp)
 ·rw [if_neg c2] at H
  exact absurd H (by simp)
def laws_toSource.f (k : Nat) (l0_0 : List (S184)) (l0_1 : List (S186)) (l0_2 : List (S190)) : Option ((List (S107)) × (List (S94)) × (List (S35))) := (laws_toThreadS.f k l0_0).bind fun t267 => ((laws_toChanS.f k l0_1).bind fun t270 => ((laws_toNoteS.f k l0_2).bind fun t273 => (some (t267,t270,t273))))
set_option maxHeartbeats 8000000 in
set_option maxRecDepth 100000 in
theorem laws_toSource.calls (k : Nat) (A0_0 : Option Addr) (c0_0 : Nat) (l0_0 : List (S184)) (A0_1 : Option Addr) (c0_1 : Nat) (l0_1 : List (S186)) (A0_2 : Option Addr) (c0_2 : Nat) (l0_2 : List (S190)) (r1 : List (S107)) (r2 : List (S94)) (r3 : List (S35)) (w : World) (hr0_0 : Kd.C k184 w A0_0 l0_0.length l0_0) (hc0_0 : l0_0.length ≤ c0_0) (hr0_1 : Kd.C k186 w A0_1 l0_1.length l0_1) (hc0_1 : l0_1.length ≤ c0_1) (hr0_2 : Kd.C k190 w A0_2 l0_2.length l0_2) (hc0_2 : l0_2.length ≤ c0_2) (h : laws_toSource.f k l0_0 l0_1 l0_2 = some (r1,r2,r3)) :
  Calls Try.prog 35 #[.agg #[.slice A0_0 l0_0.length c0_0,.slice A0_1 l0_1.length c0_1,.slice A0_2 l0_2.length c0_2]] w fun e w' => ∃ v0_ v1_ v2_ : Value,e = .returned (.agg #[v0_,v1_,v2_]) ∧ Kd.S k107 107 w' w.heap.size (fun _ => True) v0_ r1 ∧ Kd.S k94 94 w' w.heap.size (fun _ => True) v1_ r2 ∧ Kd.R k35 35 w' w.heap.size (fun _ => True) v2_ r3 ∧ Below w.heap.size w w' := by
 have hu72 := Try.underlying72
 have hu28 := Try.underlying28
 have HR0_0 := aM_ hr0_0
 have HC0_0 := aM_ hc0_0
 clear hr0_0 hc0_0
 have HR0_1 := aM_ hr0_1
 have HC0_1 := aM_ hc0_1
 clear hr0_1 hc0_1
 have HR0_2 := aM_ hr0_2
 have HC0_2 := aM_ hc0_2
 clear hr0_2 hc0_2
 have HB := aM_ (Below.refl w.heap.size w)
 have H : ((laws_toThreadS.f k l0_0).bind fun t267 => ((laws_toChanS.f k l0_1).bind fun t270 => ((laws_toNoteS.f k l0_2).bind fun t273 => (some (t267,t270,t273))))) = some (r1,r2,r3) := h
 clear h
 replace H := Option.bind_eq_some_iff.mp H
 obtain ⟨t267,A20,H⟩ := H
 replace H : ((laws_toChanS.f k l0_1).bind fun t270 => ((laws_toNoteS.f k l0_2).bind fun t273 => (some (t267,t270,t273)))) = some (r1,r2,r3) := H
 have A2 := aM_ A20
 clear A20
 replace H := Option.bind_eq_some_iff.mp H
 obtain ⟨t270,A30,H⟩ := H
 replace H : ((laws_toNoteS.f k l0_2).bind fun t273 => (some (t267,t270,t273))) = some (r1,r2,r3) := H
 have A3 := aM_ A30
 clear A30
 replace H := Option.bind_eq_some_iff.mp H
 obtain ⟨t273,A40,H⟩ := H
 replace H : (some (t267,t270,t273)) = some (r1,r2,r3) := H
 have A4 := aM_ A40
 clear A40
 simp only [Option.some.injEq,Prod.mk.injEq] at H
 obtain ⟨rfl,rfl,rfl⟩ := H
 go_enter Try.func35,Try.ntmps35
 go_wp2_with (first | ((with_reducible refine gate_dst (N := 1) rfl ?_);refine bX_ 1 (cs := #[.slice A0_0 l0_0.length c0_0,.slice A0_1 l0_1.length c0_1,.slice A0_2 l0_2.length c0_2]) (t := 72) ?_;intro gb264 hg w5 hbox hb;have n0 := aM_ (sT_ HB.out hb);have n1 := aM_ (hbox);have n2 := aM_ (sZ_ hg HB.out);have n3 := aM_ (sZ_ hg HB.out);clear HB;have HB := n0;have BK264 := n1;have GW264 := n2;have GE264 := n3;clear n0 n1 n2 n3;clear hb hbox hg) | ((with_reducible refine gate_dst (N := 2) rfl ?_);refine bX_ 2 (cs := #[.slice none 0 0,.slice none 0 0,.slice none 0 0]) (t := 28) ?_;intro gb265 hg w6 hbox hb;have n0 := aM_ (nB_ BK264.out hb);have n1 := aM_ (sT_ HB.out hb);have n2 := aM_ (hbox);have n3 := aM_ (sZ_ hg HB.out);have n4 := aM_ (sZ_ hg HB.out);have n5 := aM_ (nL_ hg BK264.out);have n6 := aM_ (nG_ hg BK264.out);clear BK264;clear HB;have BK264 := n0;have HB := n1;have BK265 := n2;have GW265 := n3;have GE265 := n4;have NB264_265 := n5;have NB265_264 := n6;clear n0 n1 n2 n3 n4 n5 n6;clear hb hbox hg) | ((with_reducible refine gate_dst (N := 3) rfl ?_);refine bX_ 3 (cs := #[.slice none 0 0,.slice none 0 0,.slice none 0 0]) (t := 28) ?_;intro gb266 hg w7 hbox hb;have n0 := aM_ (nB_ BK264.out hb);have n1 := aM_ (nB_ BK265.out hb);have n2 := aM_ (sT_ HB.out hb);have n3 := aM_ (hbox);have n4 := aM_ (sZ_ hg HB.out);have n5 := aM_ (sZ_ hg HB.out);have n6 := aM_ (nL_ hg BK264.out);have n7 := aM_ (nG_ hg BK264.out);have n8 := aM_ (nL_ hg BK265.out);have n9 := aM_ (nG_ hg BK265.out);clear BK264;clear BK265;clear HB;have BK264 := n0;have BK265 := n1;have HB := n2;have BK266 := n3;have GW266 := n4;have GE266 := n5;have NB264_266 := n6;have NB266_264 := n7;have NB265_266 := n8;have NB266_265 := n9;clear n0 n1 n2 n3 n4 n5 n6 n7 n8 n9;clear hb hbox hg;have hnb8 := NB264_265.out;have hnc8 := NB265_264.out;have hnb9 := NB264_266.out;have hnc9 := NB266_264.out;obtain ⟨hcz10_0,hcz10_1,hcz10_2,hfz10_0,hfz10_1,hfz10_2⟩ := bR3_ BK264.out) | ((with_reducible refine gate_callee (f := 95) rfl ?_);refine gL_ (some 6) Try.func95 #[.slice A0_0 l0_0.length c0_0] ?_;(with_reducible refine (laws_toThreadS.calls k _ _ l0_0 t267 _ ?side1 ?side2 A2.out).mono ?_);(case side1 => exact cS_ (Kd.C_below HR0_0.out HB.out));(case side2 => exact HC0_0.out);rintro e w11 ⟨v268,rfl,ho0,hb⟩;refine ⟨_,rfl,?_⟩;have n0 := aM_ (Kd.S_lower ho0 (below_size (gB_ HB.out)));have n1 := aM_ (nB_ BK264.out hb);have n2 := aM_ (nB_ BK265.out hb);have n3 := aM_ (nB_ BK266.out hb);have n4 := aM_ (sT_ HB.out hb);clear BK264;clear BK265;clear BK266;clear HB;have HO269 := n0;have BK264 := n1;have BK265 := n2;have BK266 := n3;have HB := n4;clear n0 n1 n2 n3 n4;(try clear ho0);obtain ⟨Ao12,co12,eo12⟩ := Kd.S_slice HO269.out;subst eo12;have hnb13 := NB266_265.out;have hnc13 := NB265_266.out;obtain ⟨hcz14_0,hcz14_1,hcz14_2,hfz14_0,hfz14_1,hfz14_2⟩ := bR3_ BK266.out;obtain ⟨hcz15_0,hcz15_1,hcz15_2,hfz15_0,hfz15_1,hfz15_2⟩ := bR3_ BK264.out) | ((with_reducible refine gate_callee (f := 96) rfl ?_);refine gL_ (some 10) Try.func96 #[.slice A0_1 l0_1.length c0_1] ?_;(with_reducible refine (laws_toChanS.calls k _ _ l0_1 t270 _ ?side1 ?side2 A3.out).mono ?_);(case side1 => exact Kd.C_below HR0_1.out (gB_ HB.out));(case side2 => exact HC0_1.out);rintro e w16 ⟨v271,rfl,ho0,hb⟩;refine ⟨_,rfl,?_⟩;have n0 := aM_ (Kd.S_below (by (with_reducible repeat (first | apply Kd.S_alloc | apply Kd.S_drewN | apply Kd.S_drew));exact (Kd.S_mono (Kd.S_far (p := ⟨gb266,0,none⟩) (Kd.S_types HO269.out BK266.out (by decide)) (fun _ hk => hk.2) (.slice Ao12 t267.length co12)) (fun _ h_ => h_.1))) hb);have n1 := aM_ (Kd.S_lower ho0 (below_size (gB_ HB.out)));have n2 := aM_ (nBf_ BK264.out hb);have n3 := aM_ (nBf_ BK265.out hb);have n4 := aM_ (blk_below (g := gb266) (o := .cells #[.slice Ao12 t267.length co12,.slice none 0 0,.slice none 0 0] 28 (0,0)) (by (with_reducible repeat (first | refine bN_ ?_ _ | refine bD_ ?_ | refine bA_ ?_ _));refine blk_put (cs := #[.slice none 0 0,.slice none 0 0,.slice none 0 0]) ?_ 0 _ rfl;exact rW_ BK266.out) hb);have n5 := aM_ (sT_ HB.out hb);clear HO269;clear BK264;clear BK265;clear BK266;clear HB;have HO269 := n0;have HO272 := n1;have BK264 := n2;have BK265 := n3;have BK266 := n4;have HB := n5;clear n0 n1 n2 n3 n4 n5;(try clear ho0);obtain ⟨Ao17,co17,eo17⟩ := Kd.S_slice HO272.out;subst eo17;obtain ⟨hcz18_0,hcz18_1,hcz18_2,hfz18_0,hfz18_1,hfz18_2⟩ := bR3_ BK266.out;obtain ⟨hcz19_0,hcz19_1,hcz19_2,hfz19_0,hfz19_1,hfz19_2⟩ := bR3_ BK264.out) | ((with_reducible refine gate_callee (f := 97) rfl ?_);refine gL_ (some 14) Try.func97 #[.slice A0_2 l0_2.length c0_2] ?_;(with_reducible refine (laws_toNoteS.calls k _ _ l0_2 t273 _ ?side1 ?side2 A4.out).mono ?_);(case side1 => exact Kd.C_below HR0_2.out (gB_ HB.out));(case side2 => exact HC0_2.out);rintro e w20 ⟨v274,rfl,ho0,hb⟩;refine ⟨_,rfl,?_⟩;have n0 := aM_ (Kd.S_below (by (with_reducible repeat (first | apply Kd.S_alloc | apply Kd.S_drewN | apply Kd.S_drew));exact (Kd.S_mono (Kd.S_far (p := ⟨gb266,1,none⟩) (Kd.S_types HO269.out BK266.out (by decide)) (fun _ hk => hk.2) (.slice Ao17 t270.length co17)) (fun _ h_ => h_.1))) hb);have n1 := aM_ (Kd.S_below (by (with_reducible repeat (first | apply Kd.S_alloc | apply Kd.S_drewN | apply Kd.S_drew));exact (Kd.S_mono (Kd.S_far (p := ⟨gb266,1,none⟩) (Kd.S_types HO272.out BK266.out (by decide)) (fun _ hk => hk.2) (.slice Ao17 t270.length co17)) (fun _ h_ => h_.1))) hb);have n2 := aM_ (Kd.R_lower ho0 (below_size (gB_ HB.out)));have n3 := aM_ (nBf_ BK264.out hb);have n4 := aM_ (nBf_ BK265.out hb);have n5 := aM_ (blk_below (g := gb266) (o := .cells #[.slice Ao12 t267.length co12,.slice Ao17 t270.length co17,.slice none 0 0] 28 (0,0)) (by (with_reducible repeat (first | refine bN_ ?_ _ | refine bD_ ?_ | refine bA_ ?_ _));refine blk_put (cs := #[.slice Ao12 t267.length co12,.slice none 0 0,.slice none 0 0]) ?_ 1 _ rfl;exact rW_ BK266.out) hb);have n6 := aM_ (sT_ HB.out hb);clear HO269;clear HO272;clear BK264;clear BK265;clear BK266;clear HB;have HO269 := n0;have HO272 := n1;have HO275 := n2;have BK264 := n3;have BK265 := n4;have BK266 := n5;have HB := n6;clear n0 n1 n2 n3 n4 n5 n6;(try clear ho0);obtain ⟨Ao21,co21,eo21⟩ := Kd.R_slice HO275.out;subst eo21;obtain ⟨hcz22_0,hcz22_1,hcz22_2,hfz22_0,hfz22_1,hfz22_2⟩ := bR3_ BK266.out;obtain ⟨hcz23_0,hcz23_1,hcz23_2,hfz23_0,hfz23_1,hfz23_2⟩ := bR3_ BK265.out))
 refine bodyPost_ret (results_cell_row rfl _ _ gb265 28 #[.slice Ao12 t267.length co12,.slice Ao17 t270.length co17,.slice Ao21 t273.length co21] (0,0) _ rfl (by (with_reducible repeat (first | refine bN_ ?_ _ | refine bD_ ?_ | refine bA_ ?_ _));refine blk_put (cs := #[.slice Ao12 t267.length co12,.slice Ao17 t270.length co17,.slice none 0 0]) ?_ 2 _ rfl;refine blk_put (cs := #[.slice Ao12 t267.length co12,.slice none 0 0,.slice none 0 0]) ?_ 1 _ rfl;refine blk_put (cs := #[.slice none 0 0,.slice none 0 0,.slice none 0 0]) ?_ 0 _ rfl;exact rWf_ BK265.out) Try.underlying28 rfl (by kernel_rfl)) rfl ?_
 exact ⟨_,_,_,fR_,by (with_reducible repeat (first | apply Kd.S_alloc | apply Kd.S_drewN | apply Kd.S_drew));exact Kd.S_mono (Kd.S_far (p := ⟨gb265,2,none⟩) (Kd.S_far (p := ⟨gb265,1,none⟩) (Kd.S_far (p := ⟨gb265,0,none⟩) (Kd.S_far (p := ⟨gb266,2,none⟩) (Kd.S_types (Kd.S_types HO269.out BK266.out (by decide)) BK265.out (by decide)) (fun _ hk => hk.1.2) (.slice Ao21 t273.length co21)) (fun _ hk => hk.2) (.slice Ao12 t267.length co12)) (fun _ hk => hk.2) (.slice Ao17 t270.length co17)) (fun _ hk => hk.2) (.slice Ao21 t273.length co21)) (fun _ hk => trivial),by (with_reducible repeat (first | apply Kd.S_alloc | apply Kd.S_drewN | apply Kd.S_drew));exact Kd.S_mono (Kd.S_far (p := ⟨gb265,2,none⟩) (Kd.S_far (p := ⟨gb265,1,none⟩) (Kd.S_far (p := ⟨gb265,0,none⟩) (Kd.S_far (p := ⟨gb266,2,none⟩) (Kd.S_types (Kd.S_types HO272.out BK266.out (by decide)) BK265.out (by decide)) (fun _ hk => hk.1.2) (.slice Ao21 t273.length co21)) (fun _ hk => hk.2) (.slice Ao12 t267.length co12)) (fun _ hk => hk.2) (.slice Ao17 t270.length co17)) (fun _ hk => hk.2) (.slice Ao21 t273.length co21)) (fun _ hk => trivial),by (with_reducible repeat (first | apply rA_ | apply rN_ | apply rD_));exact Kd.R_mono (Kd.R_far (p := ⟨gb265,2,none⟩) (Kd.R_far (p := ⟨gb265,1,none⟩) (Kd.R_far (p := ⟨gb265,0,none⟩) (Kd.R_far (p := ⟨gb266,2,none⟩) (Kd.R_types (Kd.R_types HO275.out BK266.out (by decide)) BK265.out (by decide)) (fun _ hk => hk.1.2) (.slice Ao21 t273.length co21)) (fun _ hk => hk.2) (.slice Ao12 t267.length co12)) (fun _ hk => hk.2) (.slice Ao17 t270.length co17)) (fun _ hk => hk.2) (.slice Ao21 t273.length co21)) (fun _ hk => trivial),gB_ HB.out⟩
def laws_szStepS.f (l0 : List (S177)) (a1 : Int) : Option (Int) := if (wrap64 (a1 - (l0.length : Int))) < 0 then (some (-1)) else (some (wrap64 (a1 - (l0.length : Int))))
set_option maxHeartbeats 8000000 in
set_option maxRecDepth 100000 in
theorem laws_szStepS.calls (A0 : Option Addr) (c0 : Nat) (l0 : List (S177)) (a1 : Int) (r : Int) (w : World) (hr0 : Kd.C k177 w A0 l0.length l0) (hc0 : l0.length ≤ c0) (h : laws_szStepS.f l0 a1 = some r) :
  Calls Try.prog 75 #[.slice A0 l0.length c0,.int .i64 a1] w fun e w' => e = .returned (.int .i64 r) ∧ Drawn0 w w' := by
 have HR0 := aM_ hr0
 have HC0 := aM_ hc0
 clear hr0 hc0
 have H : (if (wrap64 (a1 - (l0.length : Int))) < 0 then (some (-1)) else (some (wrap64 (a1 - (l0.length : Int))))) = some r := h
 clear h
 by_cases c3 : (wrap64 (a1 - (l0.length : Int))) < 0
 ·rw [if_pos c3] at H
  have c3b0 : decide ((wrap64 (a1 - (l0.length : Int))) < 0) = true := decide_eq_true c3
  clear c3
  obtain rfl := Option.some.inj H
  go_enter Try.func75,Try.ntmps75
  go_wp2
  go_ret
  exact ⟨by first | rfl | (simp;done) | (simp [*];done),by repeat (first | exact Drawn0.refl _ | apply Drawn0.step)⟩
 ·rw [if_neg c3] at H
  have c3b0 : decide ((wrap64 (a1 - (l0.length : Int))) < 0) = false := decide_eq_false c3
  clear c3
  obtain rfl := Option.some.inj H
  go_enter Try.func75,Try.ntmps75
  go_wp2
  go_ret
  exact ⟨by first | rfl | (simp;done) | (simp [*];done),by repeat (first | exact Drawn0.refl _ | apply Drawn0.step)⟩
def laws_szStepSS.l0 : Nat → List (List (S177)) → Int → Int → Option (Int)
  | 0,_,_,_ => none
  | k + 1,x0,x1,x5 => if x5 < (x0.length : Int) then (if 0 ≤ x5 then ((laws_szStepS.f (rd_L19 x0 x5) x1).bind fun t277 => (if t277 < 0 then (some (-1)) else (laws_szStepSS.l0 k x0 t277 (wrap64 (x5 + 1))))) else (none)) else (some x1)
def laws_szStepSS.f (k : Nat) (l0 : List (List (S177))) (a1 : Int) : Option (Int) := if (wrap64 (a1 - (l0.length : Int))) < 0 then (some (-1)) else (laws_szStepSS.l0 k l0 (wrap64 (a1 - (l0.length : Int))) 0)
set_option maxHeartbeats 8000000 in
set_option maxRecDepth 100000 in
theorem laws_szStepSS.calls (k : Nat) (A0 : Option Addr) (c0 : Nat) (l0 : List (List (S177))) (a1 : Int) (r : Int) (w : World) (hr0 : Kd.C (Kd.slice 177 k177) w A0 l0.length l0) (hc0 : l0.length ≤ c0) (h : laws_szStepSS.f k l0 a1 = some r) :
  Calls Try.prog 24 #[.slice A0 l0.length c0,.int .i64 a1] w fun e w' => e = .returned (.int .i64 r) ∧ Drawn0 w w' := by
 have HR0 := aM_ hr0
 have HC0 := aM_ hc0
 clear hr0 hc0
 have H : (if (wrap64 (a1 - (l0.length : Int))) < 0 then (some (-1)) else (laws_szStepSS.l0 k l0 (wrap64 (a1 - (l0.length : Int))) 0)) = some r := h
 clear h
 by_cases c3 : (wrap64 (a1 - (l0.length : Int))) < 0
 ·rw [if_pos c3] at H
  have c3b0 : decide ((wrap64 (a1 - (l0.length : Int))) < 0) = true := decide_eq_true c3
  clear c3
  obtain rfl := Option.some.inj H
  go_enter Try.func24,Try.ntmps24
  go_wp2
  go_ret
  exact ⟨by first | rfl | (simp;done) | (simp [*];done),by repeat (first | exact Drawn0.refl _ | apply Drawn0.step)⟩
 ·rw [if_neg c3] at H
  have c3b0 : decide ((wrap64 (a1 - (l0.length : Int))) < 0) = false := decide_eq_false c3
  clear c3
  have H' := aM_ H
  clear H
  go_enter Try.func24,Try.ntmps24
  go_wp2
  go_loopg [1,5] k (fun kq v1 v5 w' => ∃ (x1_1 : Int) (x5_1 : Int),v1 = .int .i64 x1_1 ∧ v5 = .int .i64 x5_1 ∧ Aside0 (laws_szStepSS.l0 kq l0 x1_1 x5_1 = some r) ∧ Aside0 (kq ≤ k) ∧ Drawn0 w w')
  case atStart => exact ⟨(wrap64 (a1 - (l0.length : Int))),(0),(by first | rfl | (simp;done) | (simp [*];done)),(by first | rfl | (simp;done) | (simp [*];done)),H',⟨Nat.le_refl _⟩,by repeat (first | exact Drawn0.refl _ | apply Drawn0.step)⟩
  case round =>
   clear H'
   try clear c2
   try clear p2
   try clear c3
   try clear c3b0
   obtain ⟨x1_1,x5_1,rfl,rfl,HA,HK1,⟨m1,rfl⟩⟩ := hrel
   cases gk with
   | zero => exact absurd HA.out (by simp [laws_szStepSS.l0])
   | succ k1 =>
    have H := HA.out
    clear HA
    simp only [laws_szStepSS.l0] at H
    by_cases c4 : x5_1 < (l0.length : Int)
    ·rw [if_pos c4] at H
     have c4b0 : decide (x5_1 < (l0.length : Int)) = true := decide_eq_true c4
     clear c4
     by_cases c5 : 0 ≤ x5_1
     ·rw [if_pos c5] at H
      have c5b0 : decide (0 ≤ x5_1) = true := decide_eq_true c5
      clear c5
      replace H := Option.bind_eq_some_iff.mp H
      obtain ⟨t277,A60,H⟩ := H
      replace H : (if t277 < 0 then (some (-1)) else (laws_szStepSS.l0 k1 l0 t277 (wrap64 (x5_1 + 1)))) = some r := H
      have A6 := aM_ A60
      clear A60
      by_cases c7 : t277 < 0
      ·rw [if_pos c7] at H
       have c7b0 : decide (t277 < 0) = true := decide_eq_true c7
       clear c7
       obtain rfl := Option.some.inj H
       have p276 : 0 ≤ (x5_1 : Int) := of_decide_eq_true (by first | (with_reducible assumption) | assumption)
       have q276 : x5_1 < (l0.length : Int) := of_decide_eq_true (by first | (with_reducible assumption) | assumption)
       obtain ⟨ad276,A276_0,c276_0,e276,hx276_0,hl276_0,hi276_0⟩ := at_L19 HR0.out x5_1 p276 q276
       cases e276
       have HR276_0 := aM_ hi276_0
       have HC276_0 := aM_ hl276_0
       clear hi276_0 hl276_0
       replace p276 := eq_true p276
       replace q276 := eq_true q276
       go_wp2_with (first | ((with_reducible refine gate_callee (f := 75) rfl ?_);refine gL_ (some 23) Try.func75 #[.slice A276_0 (rd_L19 l0 x5_1).length c276_0,.int .i64 x1_1] ?_;(with_reducible refine (laws_szStepS.calls _ _ (rd_L19 l0 x5_1) x1_1 t277 _ ?side1 ?side2 A6.out).mono ?_);(case side1 => exact cS_ HR276_0.out);(case side2 => exact HC276_0.out);rintro e w' ⟨rfl,⟨nd,rfl⟩⟩;refine ⟨_,rfl,?_⟩))
       go_ret
       exact ⟨by first | rfl | (simp;done) | (simp [*];done),by repeat (first | exact Drawn0.refl _ | apply Drawn0.step)⟩
      ·rw [if_neg c7] at H
       have c7b0 : decide (t277 < 0) = false := decide_eq_false c7
       clear c7
       have H' := aM_ H
       clear H
       have p276 : 0 ≤ (x5_1 : Int) := of_decide_eq_true (by first | (with_reducible assumption) | assumption)
       have q276 : x5_1 < (l0.length : Int) := of_decide_eq_true (by first | (with_reducible assumption) | assumption)
       obtain ⟨ad276,A276_0,c276_0,e276,hx276_0,hl276_0,hi276_0⟩ := at_L19 HR0.out x5_1 p276 q276
       cases e276
       have HR276_0 := aM_ hi276_0
       have HC276_0 := aM_ hl276_0
       clear hi276_0 hl276_0
       replace p276 := eq_true p276
       replace q276 := eq_true q276
       go_wp2_with (first | ((with_reducible refine gate_callee (f := 75) rfl ?_);refine gL_ (some 23) Try.func75 #[.slice A276_0 (rd_L19 l0 x5_1).length c276_0,.int .i64 x1_1] ?_;(with_reducible refine (laws_szStepS.calls _ _ (rd_L19 l0 x5_1) x1_1 t277 _ ?side1 ?side2 A6.out).mono ?_);(case side1 => exact cS_ HR276_0.out);(case side2 => exact HC276_0.out);rintro e w' ⟨rfl,⟨nd,rfl⟩⟩;refine ⟨_,rfl,?_⟩))
       go_roundg k1
       case measure => have := HK1.out;omega
       case rel => exact ⟨(t277),(wrap64 (x5_1 + 1)),(by first | rfl | (simp;done) | (simp [*];done)),(by first | rfl | (simp;done) | (simp [*];done)),H',⟨by have := HK1.out;omega⟩,by repeat (first | exact Drawn0.refl _ | apply Drawn0.step)⟩
     ·rw [if_neg c5] at H
      exact absurd H (by simp)
    ·rw [if_neg c4] at H
     have c4b0 : decide (x5_1 < (l0.length : Int)) = false := decide_eq_false c4
     clear c4
     obtain rfl := Option.some.inj H
     go_wp2
     go_ret
     exact ⟨by first | rfl | (simp;done) | (simp [*];done),by repeat (first | exact Drawn0.refl _ | apply Drawn0.step)⟩
def laws_szCore.f (a0_0 : Int) (l0_1 : List Int) (l0_2 : List Int) (a0_3 : Int) (a1 : Int) : Option (Int) := (laws_szIntS.f l0_1 a1).bind fun t279 => (if t279 < 0 then (some (-1)) else ((laws_szIntS.f l0_2 t279).bind fun t280 => (if t280 < 0 then (some (-1)) else (some t280))))
set_option maxHeartbeats 8000000 in
set_option maxRecDepth 100000 in
theorem laws_szCore.calls (a0_0 : Int) (A0_1 : Option Addr) (c0_1 : Nat) (l0_1 : List Int) (A0_2 : Option Addr) (c0_2 : Nat) (l0_2 : List Int) (a0_3 : Int) (a1 : Int) (r : Int) (w : World) (hr0_1 : Kd.C (Kd.int .i64) w A0_1 l0_1.length l0_1) (hc0_1 : l0_1.length ≤ c0_1) (hr0_2 : Kd.C (Kd.int .i64) w A0_2 l0_2.length l0_2) (hc0_2 : l0_2.length ≤ c0_2) (h : laws_szCore.f a0_0 l0_1 l0_2 a0_3 a1 = some r) :
  Calls Try.prog 152 #[.agg #[.int .i64 a0_0,.slice A0_1 l0_1.length c0_1,.slice A0_2 l0_2.length c0_2,.int .i64 a0_3],.int .i64 a1] w fun e w' => e = .returned (.int .i64 r) ∧ Below w.heap.size w w' := by
 have hu194 := Try.underlying194
 have HR0_1 := aM_ hr0_1
 have HC0_1 := aM_ hc0_1
 clear hr0_1 hc0_1
 have HR0_2 := aM_ hr0_2
 have HC0_2 := aM_ hc0_2
 clear hr0_2 hc0_2
 have HB := aM_ (Below.refl w.heap.size w)
 have H : ((laws_szIntS.f l0_1 a1).bind fun t279 => (if t279 < 0 then (some (-1)) else ((laws_szIntS.f l0_2 t279).bind fun t280 => (if t280 < 0 then (some (-1)) else (some t280))))) = some r := h
 clear h
 replace H := Option.bind_eq_some_iff.mp H
 obtain ⟨t279,A30,H⟩ := H
 replace H : (if t279 < 0 then (some (-1)) else ((laws_szIntS.f l0_2 t279).bind fun t280 => (if t280 < 0 then (some (-1)) else (some t280)))) = some r := H
 have A3 := aM_ A30
 clear A30
 by_cases c4 : t279 < 0
 ·rw [if_pos c4] at H
  have c4b0 : decide (t279 < 0) = true := decide_eq_true c4
  clear c4
  obtain rfl := Option.some.inj H
  go_enter Try.func152,Try.ntmps152
  go_wp2_with (first | ((with_reducible refine gate_dst (N := 2) rfl ?_);refine bX_ 2 (cs := #[.int .i64 a0_0,.slice A0_1 l0_1.length c0_1,.slice A0_2 l0_2.length c0_2,.int .i64 a0_3]) (t := 194) ?_;intro gb278 hg w5 hbox hb;have n0 := aM_ (sT_ HB.out hb);have n1 := aM_ (hbox);have n2 := aM_ (sZ_ hg HB.out);have n3 := aM_ (sZ_ hg HB.out);clear HB;have HB := n0;have BK278 := n1;have GW278 := n2;have GE278 := n3;clear n0 n1 n2 n3;clear hb hbox hg;obtain ⟨hcz6_0,hcz6_1,hcz6_2,hcz6_3,hfz6_0,hfz6_1,hfz6_2,hfz6_3⟩ := bR4_ BK278.out) | ((with_reducible refine gate_callee (f := 58) rfl ?_);refine gL_ (some 8) Try.func58 #[.slice A0_1 l0_1.length c0_1,.int .i64 a1] ?_;(with_reducible refine (laws_szIntS.calls _ _ l0_1 a1 t279 _ ?side1 ?side2 A3.out).mono ?_);(case side1 => exact cS_ (Kd.C_below HR0_1.out HB.out));(case side2 => exact HC0_1.out);rintro e w' ⟨rfl,⟨nd,rfl⟩⟩;refine ⟨_,rfl,?_⟩))
  go_ret
  exact fI_ HB.out
 ·rw [if_neg c4] at H
  have c4b0 : decide (t279 < 0) = false := decide_eq_false c4
  clear c4
  replace H := Option.bind_eq_some_iff.mp H
  obtain ⟨t280,A70,H⟩ := H
  replace H : (if t280 < 0 then (some (-1)) else (some t280)) = some r := H
  have A7 := aM_ A70
  clear A70
  by_cases c8 : t280 < 0
  ·rw [if_pos c8] at H
   have c8b0 : decide (t280 < 0) = true := decide_eq_true c8
   clear c8
   obtain rfl := Option.some.inj H
   go_enter Try.func152,Try.ntmps152
   go_wp2_with (first | ((with_reducible refine gate_dst (N := 2) rfl ?_);refine bX_ 2 (cs := #[.int .i64 a0_0,.slice A0_1 l0_1.length c0_1,.slice A0_2 l0_2.length c0_2,.int .i64 a0_3]) (t := 194) ?_;intro gb278 hg w9 hbox hb;have n0 := aM_ (sT_ HB.out hb);have n1 := aM_ (hbox);have n2 := aM_ (sZ_ hg HB.out);have n3 := aM_ (sZ_ hg HB.out);clear HB;have HB := n0;have BK278 := n1;have GW278 := n2;have GE278 := n3;clear n0 n1 n2 n3;clear hb hbox hg;obtain ⟨hcz10_0,hcz10_1,hcz10_2,hcz10_3,hfz10_0,hfz10_1,hfz10_2,hfz10_3⟩ := bR4_ BK278.out) | ((with_reducible refine gate_callee (f := 58) rfl ?_);refine gL_ (some 8) Try.func58 #[.slice A0_1 l0_1.length c0_1,.int .i64 a1] ?_;(with_reducible refine (laws_szIntS.calls _ _ l0_1 a1 t279 _ ?side1 ?side2 A3.out).mono ?_);(case side1 => exact cS_ (Kd.C_below HR0_1.out HB.out));(case side2 => exact HC0_1.out);rintro e w' ⟨rfl,⟨nd,rfl⟩⟩;refine ⟨_,rfl,?_⟩) | ((with_reducible refine gate_callee (f := 58) rfl ?_);refine gL_ (some 14) Try.func58 #[.slice A0_2 l0_2.length c0_2,.int .i64 t279] ?_;(with_reducible refine (laws_szIntS.calls _ _ l0_2 t279 t280 _ ?side1 ?side2 A7.out).mono ?_);(case side1 => exact cS_ (Kd.C_below HR0_2.out (gB_ HB.out)));(case side2 => exact HC0_2.out);rintro e w' ⟨rfl,⟨nd,rfl⟩⟩;refine ⟨_,rfl,?_⟩))
   go_ret
   exact fI_ HB.out
  ·rw [if_neg c8] at H
   have c8b0 : decide (t280 < 0) = false := decide_eq_false c8
   clear c8
   obtain rfl := Option.some.inj H
   go_enter Try.func152,Try.ntmps152
   go_wp2_with (first | ((with_reducible refine gate_dst (N := 2) rfl ?_);refine bX_ 2 (cs := #[.int .i64 a0_0,.slice A0_1 l0_1.length c0_1,.slice A0_2 l0_2.length c0_2,.int .i64 a0_3]) (t := 194) ?_;intro gb278 hg w11 hbox hb;have n0 := aM_ (sT_ HB.out hb);have n1 := aM_ (hbox);have n2 := aM_ (sZ_ hg HB.out);have n3 := aM_ (sZ_ hg HB.out);clear HB;have HB := n0;have BK278 := n1;have GW278 := n2;have GE278 := n3;clear n0 n1 n2 n3;clear hb hbox hg;obtain ⟨hcz12_0,hcz12_1,hcz12_2,hcz12_3,hfz12_0,hfz12_1,hfz12_2,hfz12_3⟩ := bR4_ BK278.out) | ((with_reducible refine gate_callee (f := 58) rfl ?_);refine gL_ (some 8) Try.func58 #[.slice A0_1 l0_1.length c0_1,.int .i64 a1] ?_;(with_reducible refine (laws_szIntS.calls _ _ l0_1 a1 t279 _ ?side1 ?side2 A3.out).mono ?_);(case side1 => exact cS_ (Kd.C_below HR0_1.out HB.out));(case side2 => exact HC0_1.out);rintro e w' ⟨rfl,⟨nd,rfl⟩⟩;refine ⟨_,rfl,?_⟩) | ((with_reducible refine gate_callee (f := 58) rfl ?_);refine gL_ (some 14) Try.func58 #[.slice A0_2 l0_2.length c0_2,.int .i64 t279] ?_;(with_reducible refine (laws_szIntS.calls _ _ l0_2 t279 t280 _ ?side1 ?side2 A7.out).mono ?_);(case side1 => exact cS_ (Kd.C_below HR0_2.out (gB_ HB.out)));(case side2 => exact HC0_2.out);rintro e w' ⟨rfl,⟨nd,rfl⟩⟩;refine ⟨_,rfl,?_⟩))
   go_ret
   exact fI_ HB.out
def laws_szCoreS.l0 : Nat → List (S194) → Int → Int → Option (Int)
  | 0,_,_,_ => none
  | k + 1,x0,x1,x5 => if x5 < (x0.length : Int) then (if 0 ≤ x5 then ((laws_szCore.f ((rd_T194 x0 x5).f0) ((rd_T194 x0 x5).f1) ((rd_T194 x0 x5).f2) ((rd_T194 x0 x5).f3) x1).bind fun t282 => (if t282 < 0 then (some (-1)) else (laws_szCoreS.l0 k x0 t282 (wrap64 (x5 + 1))))) else (none)) else (some x1)
def laws_szCoreS.f (k : Nat) (l0 : List (S194)) (a1 : Int) : Option (Int) := if (wrap64 (a1 - (l0.length : Int))) < 0 then (some (-1)) else (laws_szCoreS.l0 k l0 (wrap64 (a1 - (l0.length : Int))) 0)
set_option maxHeartbeats 8000000 in
set_option maxRecDepth 100000 in
theorem laws_szCoreS.calls (k : Nat) (A0 : Option Addr) (c0 : Nat) (l0 : List (S194)) (a1 : Int) (r : Int) (w : World) (hr0 : Kd.C k194 w A0 l0.length l0) (hc0 : l0.length ≤ c0) (h : laws_szCoreS.f k l0 a1 = some r) :
  Calls Try.prog 101 #[.slice A0 l0.length c0,.int .i64 a1] w fun e w' => e = .returned (.int .i64 r) ∧ Below w.heap.size w w' := by
 have hu194 := Try.underlying194
 have HR0 := aM_ hr0
 have HC0 := aM_ hc0
 clear hr0 hc0
 have HB := aM_ (Below.refl w.heap.size w)
 have H : (if (wrap64 (a1 - (l0.length : Int))) < 0 then (some (-1)) else (laws_szCoreS.l0 k l0 (wrap64 (a1 - (l0.length : Int))) 0)) = some r := h
 clear h
 by_cases c3 : (wrap64 (a1 - (l0.length : Int))) < 0
 ·rw [if_pos c3] at H
  have c3b0 : decide ((wrap64 (a1 - (l0.length : Int))) < 0) = true := decide_eq_true c3
  clear c3
  obtain rfl := Option.some.inj H
  go_enter Try.func101,Try.ntmps101
  go_wp2
  go_ret
  exact fI_ HB.out
 ·rw [if_neg c3] at H
  have c3b0 : decide ((wrap64 (a1 - (l0.length : Int))) < 0) = false := decide_eq_false c3
  clear c3
  have H' := aM_ H
  clear H
  go_enter Try.func101,Try.ntmps101
  go_wp2
  go_loopg [1,5] k (fun kq v1 v5 w' => ∃ (x1_1 : Int) (x5_1 : Int),v1 = .int .i64 x1_1 ∧ v5 = .int .i64 x5_1 ∧ Aside0 (laws_szCoreS.l0 kq l0 x1_1 x5_1 = some r) ∧ Aside0 (kq ≤ k) ∧ Aside0 (Below w.heap.size w w'))
  case atStart => exact ⟨(wrap64 (a1 - (l0.length : Int))),(0),(by first | rfl | (simp;done) | (simp [*];done)),(by first | rfl | (simp;done) | (simp [*];done)),H',⟨Nat.le_refl _⟩,⟨gW_ HB.out⟩⟩
  case round =>
   clear H'
   try clear c1
   try clear p2
   try clear c3
   try clear c3b0
   obtain ⟨x1_1,x5_1,rfl,rfl,HA,HK1,HB⟩ := hrel
   cases gk with
   | zero => exact absurd HA.out (by simp [laws_szCoreS.l0])
   | succ k1 =>
    have H := HA.out
    clear HA
    simp only [laws_szCoreS.l0] at H
    by_cases c4 : x5_1 < (l0.length : Int)
    ·rw [if_pos c4] at H
     have c4b0 : decide (x5_1 < (l0.length : Int)) = true := decide_eq_true c4
     clear c4
     by_cases c5 : 0 ≤ x5_1
     ·rw [if_pos c5] at H
      have c5b0 : decide (0 ≤ x5_1) = true := decide_eq_true c5
      clear c5
      replace H := Option.bind_eq_some_iff.mp H
      obtain ⟨t282,A60,H⟩ := H
      replace H : (if t282 < 0 then (some (-1)) else (laws_szCoreS.l0 k1 l0 t282 (wrap64 (x5_1 + 1)))) = some r := H
      have A6 := aM_ A60
      clear A60
      by_cases c7 : t282 < 0
      ·rw [if_pos c7] at H
       have c7b0 : decide (t282 < 0) = true := decide_eq_true c7
       clear c7
       obtain rfl := Option.some.inj H
       have p281 : 0 ≤ (x5_1 : Int) := of_decide_eq_true (by first | (with_reducible assumption) | assumption)
       have q281 : x5_1 < (l0.length : Int) := of_decide_eq_true (by first | (with_reducible assumption) | assumption)
       obtain ⟨ad281,A281_1,c281_1,A281_2,c281_2,e281,hx281_0,hx281_1,hx281_2,hx281_3,hl281_1,hi281_1,hl281_2,hi281_2⟩ := at_T194 HR0.out x5_1 p281 q281
       cases e281
       replace hx281_0 := cB_ HB.out hx281_0
       replace hx281_1 := cB_ HB.out hx281_1
       replace hx281_2 := cB_ HB.out hx281_2
       replace hx281_3 := cB_ HB.out hx281_3
       have HR281_1 := aM_ hi281_1
       have HC281_1 := aM_ hl281_1
       clear hi281_1 hl281_1
       have HR281_2 := aM_ hi281_2
       have HC281_2 := aM_ hl281_2
       clear hi281_2 hl281_2
       replace p281 := eq_true p281
       replace q281 := eq_true q281
       go_wp2_with (first | ((with_reducible refine gate_callee (f := 152) rfl ?_);refine gL_ (some 23) Try.func152 #[.agg #[.int .i64 ((rd_T194 l0 x5_1).f0),.slice A281_1 ((rd_T194 l0 x5_1).f1).length c281_1,.slice A281_2 ((rd_T194 l0 x5_1).f2).length c281_2,.int .i64 ((rd_T194 l0 x5_1).f3)],.int .i64 x1_1] ?_;(with_reducible refine (laws_szCore.calls ((rd_T194 l0 x5_1).f0) _ _ ((rd_T194 l0 x5_1).f1) _ _ ((rd_T194 l0 x5_1).f2) ((rd_T194 l0 x5_1).f3) x1_1 t282 _ ?side1 ?side2 ?side3 ?side4 A6.out).mono ?_);(case side1 => exact cS_ (Kd.C_below HR281_1.out HB.out));(case side2 => exact HC281_1.out);(case side3 => exact cS_ (Kd.C_below HR281_2.out HB.out));(case side4 => exact HC281_2.out);rintro e w8 ⟨rfl,hb⟩;refine ⟨_,rfl,?_⟩;have n0 := aM_ (sT_ HB.out hb);clear HB;have HB := n0;clear n0))
       go_ret
       exact fI_ HB.out
      ·rw [if_neg c7] at H
       have c7b0 : decide (t282 < 0) = false := decide_eq_false c7
       clear c7
       have H' := aM_ H
       clear H
       have p281 : 0 ≤ (x5_1 : Int) := of_decide_eq_true (by first | (with_reducible assumption) | assumption)
       have q281 : x5_1 < (l0.length : Int) := of_decide_eq_true (by first | (with_reducible assumption) | assumption)
       obtain ⟨ad281,A281_1,c281_1,A281_2,c281_2,e281,hx281_0,hx281_1,hx281_2,hx281_3,hl281_1,hi281_1,hl281_2,hi281_2⟩ := at_T194 HR0.out x5_1 p281 q281
       cases e281
       replace hx281_0 := cB_ HB.out hx281_0
       replace hx281_1 := cB_ HB.out hx281_1
       replace hx281_2 := cB_ HB.out hx281_2
       replace hx281_3 := cB_ HB.out hx281_3
       have HR281_1 := aM_ hi281_1
       have HC281_1 := aM_ hl281_1
       clear hi281_1 hl281_1
       have HR281_2 := aM_ hi281_2
       have HC281_2 := aM_ hl281_2
       clear hi281_2 hl281_2
       replace p281 := eq_true p281
       replace q281 := eq_true q281
       go_wp2_with (first | ((with_reducible refine gate_callee (f := 152) rfl ?_);refine gL_ (some 23) Try.func152 #[.agg #[.int .i64 ((rd_T194 l0 x5_1).f0),.slice A281_1 ((rd_T194 l0 x5_1).f1).length c281_1,.slice A281_2 ((rd_T194 l0 x5_1).f2).length c281_2,.int .i64 ((rd_T194 l0 x5_1).f3)],.int .i64 x1_1] ?_;(with_reducible refine (laws_szCore.calls ((rd_T194 l0 x5_1).f0) _ _ ((rd_T194 l0 x5_1).f1) _ _ ((rd_T194 l0 x5_1).f2) ((rd_T194 l0 x5_1).f3) x1_1 t282 _ ?side1 ?side2 ?side3 ?side4 A6.out).mono ?_);(case side1 => exact cS_ (Kd.C_below HR281_1.out HB.out));(case side2 => exact HC281_1.out);(case side3 => exact cS_ (Kd.C_below HR281_2.out HB.out));(case side4 => exact HC281_2.out);rintro e w9 ⟨rfl,hb⟩;refine ⟨_,rfl,?_⟩;have n0 := aM_ (sT_ HB.out hb);clear HB;have HB := n0;clear n0))
       go_roundg k1
       case measure => have := HK1.out;omega
       case rel => exact ⟨(t282),(wrap64 (x5_1 + 1)),(by first | rfl | (simp;done) | (simp [*];done)),(by first | rfl | (simp;done) | (simp [*];done)),H',⟨by have := HK1.out;omega⟩,⟨gW_ HB.out⟩⟩
     ·rw [if_neg c5] at H
      exact absurd H (by simp)
    ·rw [if_neg c4] at H
     have c4b0 : decide (x5_1 < (l0.length : Int)) = false := decide_eq_false c4
     clear c4
     obtain rfl := Option.some.inj H
     go_wp2
     go_ret
     exact fI_ HB.out
def laws_szWrite.f (a0_0 : Int) (l0_1 : List Int) (a1 : Int) : Option (Int) := (laws_szIntS.f l0_1 a1).bind fun t284 => (if t284 < 0 then (some (-1)) else (some t284))
set_option maxHeartbeats 8000000 in
set_option maxRecDepth 100000 in
theorem laws_szWrite.calls (a0_0 : Int) (A0_1 : Option Addr) (c0_1 : Nat) (l0_1 : List Int) (a1 : Int) (r : Int) (w : World) (hr0_1 : Kd.C (Kd.int .i64) w A0_1 l0_1.length l0_1) (hc0_1 : l0_1.length ≤ c0_1) (h : laws_szWrite.f a0_0 l0_1 a1 = some r) :
  Calls Try.prog 193 #[.agg #[.int .i64 a0_0,.slice A0_1 l0_1.length c0_1],.int .i64 a1] w fun e w' => e = .returned (.int .i64 r) ∧ Below w.heap.size w w' := by
 have hu238 := Try.underlying238
 have HR0_1 := aM_ hr0_1
 have HC0_1 := aM_ hc0_1
 clear hr0_1 hc0_1
 have HB := aM_ (Below.refl w.heap.size w)
 have H : ((laws_szIntS.f l0_1 a1).bind fun t284 => (if t284 < 0 then (some (-1)) else (some t284))) = some r := h
 clear h
 replace H := Option.bind_eq_some_iff.mp H
 obtain ⟨t284,A30,H⟩ := H
 replace H : (if t284 < 0 then (some (-1)) else (some t284)) = some r := H
 have A3 := aM_ A30
 clear A30
 by_cases c4 : t284 < 0
 ·rw [if_pos c4] at H
  have c4b0 : decide (t284 < 0) = true := decide_eq_true c4
  clear c4
  obtain rfl := Option.some.inj H
  go_enter Try.func193,Try.ntmps193
  go_wp2_with (first | ((with_reducible refine gate_dst (N := 2) rfl ?_);refine bX_ 2 (cs := #[.int .i64 a0_0,.slice A0_1 l0_1.length c0_1]) (t := 238) ?_;intro gb283 hg w5 hbox hb;have n0 := aM_ (sT_ HB.out hb);have n1 := aM_ (hbox);have n2 := aM_ (sZ_ hg HB.out);have n3 := aM_ (sZ_ hg HB.out);clear HB;have HB := n0;have BK283 := n1;have GW283 := n2;have GE283 := n3;clear n0 n1 n2 n3;clear hb hbox hg;obtain ⟨hcz6_0,hcz6_1,hfz6_0,hfz6_1⟩ := bR2_ BK283.out) | ((with_reducible refine gate_callee (f := 58) rfl ?_);refine gL_ (some 8) Try.func58 #[.slice A0_1 l0_1.length c0_1,.int .i64 a1] ?_;(with_reducible refine (laws_szIntS.calls _ _ l0_1 a1 t284 _ ?side1 ?side2 A3.out).mono ?_);(case side1 => exact cS_ (Kd.C_below HR0_1.out HB.out));(case side2 => exact HC0_1.out);rintro e w' ⟨rfl,⟨nd,rfl⟩⟩;refine ⟨_,rfl,?_⟩))
  go_ret
  exact fI_ HB.out
 ·rw [if_neg c4] at H
  have c4b0 : decide (t284 < 0) = false := decide_eq_false c4
  clear c4
  obtain rfl := Option.some.inj H
  go_enter Try.func193,Try.ntmps193
  go_wp2_with (first | ((with_reducible refine gate_dst (N := 2) rfl ?_);refine bX_ 2 (cs := #[.int .i64 a0_0,.slice A0_1 l0_1.length c0_1]) (t := 238) ?_;intro gb283 hg w7 hbox hb;have n0 := aM_ (sT_ HB.out hb);have n1 := aM_ (hbox);have n2 := aM_ (sZ_ hg HB.out);have n3 := aM_ (sZ_ hg HB.out);clear HB;have HB := n0;have BK283 := n1;have GW283 := n2;have GE283 := n3;clear n0 n1 n2 n3;clear hb hbox hg;obtain ⟨hcz8_0,hcz8_1,hfz8_0,hfz8_1⟩ := bR2_ BK283.out) | ((with_reducible refine gate_callee (f := 58) rfl ?_);refine gL_ (some 8) Try.func58 #[.slice A0_1 l0_1.length c0_1,.int .i64 a1] ?_;(with_reducible refine (laws_szIntS.calls _ _ l0_1 a1 t284 _ ?side1 ?side2 A3.out).mono ?_);(case side1 => exact cS_ (Kd.C_below HR0_1.out HB.out));(case side2 => exact HC0_1.out);rintro e w' ⟨rfl,⟨nd,rfl⟩⟩;refine ⟨_,rfl,?_⟩))
  go_ret
  exact fI_ HB.out
def laws_szWriteS.l0 : Nat → List (S238) → Int → Int → Option (Int)
  | 0,_,_,_ => none
  | k + 1,x0,x1,x5 => if x5 < (x0.length : Int) then (if 0 ≤ x5 then ((laws_szWrite.f ((rd_T238 x0 x5).f0) ((rd_T238 x0 x5).f1) x1).bind fun t286 => (if t286 < 0 then (some (-1)) else (laws_szWriteS.l0 k x0 t286 (wrap64 (x5 + 1))))) else (none)) else (some x1)
def laws_szWriteS.f (k : Nat) (l0 : List (S238)) (a1 : Int) : Option (Int) := if (wrap64 (a1 - (l0.length : Int))) < 0 then (some (-1)) else (laws_szWriteS.l0 k l0 (wrap64 (a1 - (l0.length : Int))) 0)
set_option maxHeartbeats 8000000 in
set_option maxRecDepth 100000 in
theorem laws_szWriteS.calls (k : Nat) (A0 : Option Addr) (c0 : Nat) (l0 : List (S238)) (a1 : Int) (r : Int) (w : World) (hr0 : Kd.C k238 w A0 l0.length l0) (hc0 : l0.length ≤ c0) (h : laws_szWriteS.f k l0 a1 = some r) :
  Calls Try.prog 175 #[.slice A0 l0.length c0,.int .i64 a1] w fun e w' => e = .returned (.int .i64 r) ∧ Below w.heap.size w w' := by
 have hu238 := Try.underlying238
 have HR0 := aM_ hr0
 have HC0 := aM_ hc0
 clear hr0 hc0
 have HB := aM_ (Below.refl w.heap.size w)
 have H : (if (wrap64 (a1 - (l0.length : Int))) < 0 then (some (-1)) else (laws_szWriteS.l0 k l0 (wrap64 (a1 - (l0.length : Int))) 0)) = some r := h
 clear h
 by_cases c3 : (wrap64 (a1 - (l0.length : Int))) < 0
 ·rw [if_pos c3] at H
  have c3b0 : decide ((wrap64 (a1 - (l0.length : Int))) < 0) = true := decide_eq_true c3
  clear c3
  obtain rfl := Option.some.inj H
  go_enter Try.func175,Try.ntmps175
  go_wp2
  go_ret
  exact fI_ HB.out
 ·rw [if_neg c3] at H
  have c3b0 : decide ((wrap64 (a1 - (l0.length : Int))) < 0) = false := decide_eq_false c3
  clear c3
  have H' := aM_ H
  clear H
  go_enter Try.func175,Try.ntmps175
  go_wp2
  go_loopg [1,5] k (fun kq v1 v5 w' => ∃ (x1_1 : Int) (x5_1 : Int),v1 = .int .i64 x1_1 ∧ v5 = .int .i64 x5_1 ∧ Aside0 (laws_szWriteS.l0 kq l0 x1_1 x5_1 = some r) ∧ Aside0 (kq ≤ k) ∧ Aside0 (Below w.heap.size w w'))
  case atStart => exact ⟨(wrap64 (a1 - (l0.length : Int))),(0),(by first | rfl | (simp;done) | (simp [*];done)),(by first | rfl | (simp;done) | (simp [*];done)),H',⟨Nat.le_refl _⟩,⟨gW_ HB.out⟩⟩
  case round =>
   clear H'
   try clear c1
   try clear p2
   try clear c3
   try clear c3b0
   obtain ⟨x1_1,x5_1,rfl,rfl,HA,HK1,HB⟩ := hrel
   cases gk with
   | zero => exact absurd HA.out (by simp [laws_szWriteS.l0])
   | succ k1 =>
    have H := HA.out
    clear HA
    simp only [laws_szWriteS.l0] at H
    by_cases c4 : x5_1 < (l0.length : Int)
    ·rw [if_pos c4] at H
     have c4b0 : decide (x5_1 < (l0.length : Int)) = true := decide_eq_true c4
     clear c4
     by_cases c5 : 0 ≤ x5_1
     ·rw [if_pos c5] at H
      have c5b0 : decide (0 ≤ x5_1) = true := decide_eq_true c5
      clear c5
      replace H := Option.bind_eq_some_iff.mp H
      obtain ⟨t286,A60,H⟩ := H
      replace H : (if t286 < 0 then (some (-1)) else (laws_szWriteS.l0 k1 l0 t286 (wrap64 (x5_1 + 1)))) = some r := H
      have A6 := aM_ A60
      clear A60
      by_cases c7 : t286 < 0
      ·rw [if_pos c7] at H
       have c7b0 : decide (t286 < 0) = true := decide_eq_true c7
       clear c7
       obtain rfl := Option.some.inj H
       have p285 : 0 ≤ (x5_1 : Int) := of_decide_eq_true (by first | (with_reducible assumption) | assumption)
       have q285 : x5_1 < (l0.length : Int) := of_decide_eq_true (by first | (with_reducible assumption) | assumption)
       obtain ⟨ad285,A285_1,c285_1,e285,hx285_0,hx285_1,hl285_1,hi285_1⟩ := at_T238 HR0.out x5_1 p285 q285
       cases e285
       replace hx285_0 := cB_ HB.out hx285_0
       replace hx285_1 := cB_ HB.out hx285_1
       have HR285_1 := aM_ hi285_1
       have HC285_1 := aM_ hl285_1
       clear hi285_1 hl285_1
       replace p285 := eq_true p285
       replace q285 := eq_true q285
       go_wp2_with (first | ((with_reducible refine gate_callee (f := 193) rfl ?_);refine gL_ (some 23) Try.func193 #[.agg #[.int .i64 ((rd_T238 l0 x5_1).f0),.slice A285_1 ((rd_T238 l0 x5_1).f1).length c285_1],.int .i64 x1_1] ?_;(with_reducible refine (laws_szWrite.calls ((rd_T238 l0 x5_1).f0) _ _ ((rd_T238 l0 x5_1).f1) x1_1 t286 _ ?side1 ?side2 A6.out).mono ?_);(case side1 => exact cS_ (Kd.C_below HR285_1.out HB.out));(case side2 => exact HC285_1.out);rintro e w8 ⟨rfl,hb⟩;refine ⟨_,rfl,?_⟩;have n0 := aM_ (sT_ HB.out hb);clear HB;have HB := n0;clear n0))
       go_ret
       exact fI_ HB.out
      ·rw [if_neg c7] at H
       have c7b0 : decide (t286 < 0) = false := decide_eq_false c7
       clear c7
       have H' := aM_ H
       clear H
       have p285 : 0 ≤ (x5_1 : Int) := of_decide_eq_true (by first | (with_reducible assumption) | assumption)
       have q285 : x5_1 < (l0.length : Int) := of_decide_eq_true (by first | (with_reducible assumption) | assumption)
       obtain ⟨ad285,A285_1,c285_1,e285,hx285_0,hx285_1,hl285_1,hi285_1⟩ := at_T238 HR0.out x5_1 p285 q285
       cases e285
       replace hx285_0 := cB_ HB.out hx285_0
       replace hx285_1 := cB_ HB.out hx285_1
       have HR285_1 := aM_ hi285_1
       have HC285_1 := aM_ hl285_1
       clear hi285_1 hl285_1
       replace p285 := eq_true p285
       replace q285 := eq_true q285
       go_wp2_with (first | ((with_reducible refine gate_callee (f := 193) rfl ?_);refine gL_ (some 23) Try.func193 #[.agg #[.int .i64 ((rd_T238 l0 x5_1).f0),.slice A285_1 ((rd_T238 l0 x5_1).f1).length c285_1],.int .i64 x1_1] ?_;(with_reducible refine (laws_szWrite.calls ((rd_T238 l0 x5_1).f0) _ _ ((rd_T238 l0 x5_1).f1) x1_1 t286 _ ?side1 ?side2 A6.out).mono ?_);(case side1 => exact cS_ (Kd.C_below HR285_1.out HB.out));(case side2 => exact HC285_1.out);rintro e w9 ⟨rfl,hb⟩;refine ⟨_,rfl,?_⟩;have n0 := aM_ (sT_ HB.out hb);clear HB;have HB := n0;clear n0))
       go_roundg k1
       case measure => have := HK1.out;omega
       case rel => exact ⟨(t286),(wrap64 (x5_1 + 1)),(by first | rfl | (simp;done) | (simp [*];done)),(by first | rfl | (simp;done) | (simp [*];done)),H',⟨by have := HK1.out;omega⟩,⟨gW_ HB.out⟩⟩
     ·rw [if_neg c5] at H
      exact absurd H (by simp)
    ·rw [if_neg c4] at H
     have c4b0 : decide (x5_1 < (l0.length : Int)) = false := decide_eq_false c4
     clear c4
     obtain rfl := Option.some.inj H
     go_wp2
     go_ret
     exact fI_ HB.out
end Go.Proofs.Ytobachfngmpeiaa.PFnExactChanSame
