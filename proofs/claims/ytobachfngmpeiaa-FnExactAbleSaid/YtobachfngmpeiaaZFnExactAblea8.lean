/- Part of the proof of FnExactAble. -/
import Derived.Test.YtobachfngmpeiaaZFnExactAblea7
import Derived.Test.YtobachfngmpeiaaZFnExactAbles
set_option maxRecDepth 100000
namespace Go.Proofs.Ytobachfngmpeiaa.PFnExactAble
open Go.RowKit Go.Proofs.YtobachfngmpeiaaW.PrintWords Go.Proofs.YtobachfngmpeiaaW.PrintLast Go.Proofs.YtobachfngmpeiaaW.PrintMore
attribute [local go_sem] max2_int min2_int max_two min_two max_three min_three max_four min_four   -- for this text's walks alone
set_option linter.unusedVariables false
set_option linter.unusedSimpArgs false
def laws_toNoteS.l0 : Nat → List (S190) → List (S35) → Int → Option ((List (S35)))
  | 0,_,_,_ => none
  | k + 1,x0,x3,x4 => if x4 < (x0.length : Int) then (if 0 ≤ x4 then ((laws_toNote.f ((rd_T190 x0 x4).f0) ((rd_T190 x0 x4).f1)).bind fun bt241 => (if x4 < (x3.length : Int) then (laws_toNoteS.l0 k x0 (x3.set (x4 : Int).toNat (⟨bt241.1,bt241.2⟩ : S35)) (wrap64 (x4 + 1))) else (none))) else (none)) else (some x3)
def laws_toNoteS.f (k : Nat) (l0 : List (S190)) : Option ((List (S35))) := if 0 ≤ (l0.length : Int) then (if ((l0.length : Int) : Int).toNat ≤ 17592186044416 then (laws_toNoteS.l0 k l0 (List.replicate ((l0.length : Int) : Int).toNat z35) 0) else (none)) else (none)
set_option maxHeartbeats 8000000 in
theorem laws_toNoteS.calls (k : Nat) (A0 : Option Addr) (c0 : Nat) (l0 : List (S190)) (r : List (S35)) (w : World) (hr0 : Kd.C k190 w A0 l0.length l0) (hc0 : l0.length ≤ c0) (h : laws_toNoteS.f k l0 = some r) :
  Calls Try.prog 97 #[.slice A0 l0.length c0] w fun e w' => ∃ v0_ : Value,e = .returned (v0_) ∧ Kd.R k35 35 w' w.heap.size (fun _ => True) v0_ r ∧ Below w.heap.size w w' := by
 have hu190 := Try.underlying190
 have hu35 := Try.underlying35
 have HR0 := aM_ hr0
 have HC0 := aM_ hc0
 clear hr0 hc0
 have HB := aM_ (Below.refl w.heap.size w)
 have H : (if 0 ≤ (l0.length : Int) then (if ((l0.length : Int) : Int).toNat ≤ 17592186044416 then (laws_toNoteS.l0 k l0 (List.replicate ((l0.length : Int) : Int).toNat z35) 0) else (none)) else (none)) = some r := h
 clear h
 by_cases c2 : 0 ≤ (l0.length : Int)
 ·rw [if_pos c2] at H
  have c2b0 := eq_true c2
  have c2b1 : decide (0 ≤ (l0.length : Int)) = true := decide_eq_true c2
  clear c2
  by_cases c3 : ((l0.length : Int) : Int).toNat ≤ 17592186044416
  ·rw [if_pos c3] at H
   have c3b0 := eq_true c3
   have c3b1 : decide (((l0.length : Int) : Int).toNat ≤ 17592186044416) = true := decide_eq_true c3
   clear c3
   obtain ⟨y237,hy237⟩ : ∃ y_ : List (S35),y_ = (List.replicate ((l0.length : Int) : Int).toNat z35) := ⟨_,rfl⟩
   replace H : (laws_toNoteS.l0 k l0 y237 0) = some r := by first | (rw [hy237];with_reducible exact H) | (have H2_ := (Option.bind_some _ _).symm.trans H;rw [hy237];with_reducible exact H2_) | (have H2_ := (Option.bind_some _ _).symm.trans H;with_reducible exact H2_) | with_reducible exact H | (rw [hy237];exact H) | exact H
   have Ny237 := aM_ hy237
   clear hy237
   have H' := aM_ H
   clear H
   go_enter Try.func97,Try.ntmps97
   go_wp2_with (first | ((with_reducible refine gate_dst (N := 7) rfl ?_);refine Kd.R_make k35 _ 35 rfl (N := 7) rfl 26 _ _ rfl (l0.length : Int) rfl rfl Try.underlying26 (.agg #[(.int .i64 0),(.int .i64 0)]) 16 info35 rfl (by decide) (by omega) z35 (ok := fun _ => True) (okp := fun _ => True) (k35_mkM _ _ _ z35 ) (fun _ hk => hk) trivial (pD_) (Nat.le_trans (Nat.mul_le_mul_right _ (pD_ : (l0.length : Int).toNat ≤ 17592186044416)) (by omega)) (Below.refl _ _) (Nat.le_refl _) ?_;intro v238 w4 ho5 hb hg_ hnew_;clear hg_ hnew_;(first | rw [← Ny237.out] at ho5 | (simp only [Int.reduceToNat] at ho5;rw [← Ny237.out] at ho5));have HO239 := aM_ (Kd.R_lower ho5 (below_size (gB_ HB.out)));replace HB := aM_ (sT_ HB.out hb);clear hb ho5))
   go_loopg [4] k (fun kq v4 w' => ∃ (x3_1 : List (S35)) (x4_1 : Int),v4 = .int .i64 x4_1 ∧ Aside0 (laws_toNoteS.l0 kq l0 x3_1 x4_1 = some r) ∧ Aside0 (kq ≤ k) ∧ Aside0 (Kd.R k35 35 w' w.heap.size (fun _ => True) v238 x3_1) ∧ Aside0 (Below w.heap.size w w'))
   case atStart => exact ⟨(y237),(0),(by first | rfl | (simp;done) | (simp [*];done)),H',⟨Nat.le_refl _⟩,⟨by (with_reducible repeat (first | apply rA_ | apply rN_ | apply rD_));exact HO239.out⟩,⟨gW_ HB.out⟩⟩
   case round =>
    clear H'
    (try clear c2);(try clear c2b0);(try clear c2b1);(try clear p2);(try clear c3);(try clear c3b0);(try clear c3b1)
    obtain ⟨x3_1,x4_1,rfl,HA,HK1,HO_3,HB⟩ := hrel
    cases gk with
    | zero => exact absurd HA.out (by simp [laws_toNoteS.l0])
    | succ k1 =>
     have H := HA.out
     clear HA
     simp only [laws_toNoteS.l0] at H
     by_cases c6 : x4_1 < (l0.length : Int)
     ·rw [if_pos c6] at H
      have c6b0 : decide (x4_1 < (l0.length : Int)) = true := decide_eq_true c6
      clear c6
      by_cases c7 : 0 ≤ x4_1
      ·rw [if_pos c7] at H
       have c7b0 : decide (0 ≤ x4_1) = true := decide_eq_true c7
       clear c7
       replace H := Option.bind_eq_some_iff.mp H
       obtain ⟨⟨t241,t242⟩,A80,H⟩ := H
       replace H : (if x4_1 < (x3_1.length : Int) then (laws_toNoteS.l0 k1 l0 (x3_1.set (x4_1 : Int).toNat (⟨t241,t242⟩ : S35)) (wrap64 (x4_1 + 1))) else (none)) = some r := H
       have A8 := aM_ A80
       clear A80
       by_cases c9 : x4_1 < (x3_1.length : Int)
       ·rw [if_pos c9] at H
        have c9b0 : decide (x4_1 < (x3_1.length : Int)) = true := decide_eq_true c9
        clear c9
        obtain ⟨y243,hy243⟩ : ∃ y_ : List (S35),y_ = (x3_1.set (x4_1 : Int).toNat (⟨t241,t242⟩ : S35)) := ⟨_,rfl⟩
        replace H : (laws_toNoteS.l0 k1 l0 y243 (wrap64 (x4_1 + 1))) = some r := by first | (rw [hy243];with_reducible exact H) | (have H2_ := (Option.bind_some _ _).symm.trans H;rw [hy243];with_reducible exact H2_) | (have H2_ := (Option.bind_some _ _).symm.trans H;with_reducible exact H2_) | with_reducible exact H | (rw [hy243];exact H) | exact H
        have Ny243 := aM_ hy243
        clear hy243
        have H' := aM_ H
        clear H
        have p240 : 0 ≤ (x4_1 : Int) := pD_
        have q240 : x4_1 < (l0.length : Int) := pD_
        obtain ⟨ad240,e240,hx240_0,hx240_1⟩ := at_T190 HR0.out x4_1 p240 q240
        cases e240
        replace hx240_0 := cB_ HB.out hx240_0
        replace hx240_1 := cB_ HB.out hx240_1
        replace p240 := eq_true p240
        replace q240 := eq_true q240
        go_wp2_with (first | (refine gL_ (some 20) Try.func149 #[.agg #[.int .i64 ((rd_T190 l0 x4_1).f0),.int .i64 ((rd_T190 l0 x4_1).f1)]] ?_;(with_reducible refine (laws_toNote.calls ((rd_T190 l0 x4_1).f0) ((rd_T190 l0 x4_1).f1) t241 t242 _ A8.out).mono ?_);rintro e w11 ⟨rfl,hb⟩;refine ⟨_,rfl,?_⟩;replace HO_3 := aM_ (bR_ HO_3.out hb);replace HB := aM_ (sT_ HB.out hb);have p10 : 0 ≤ (x4_1 : Int) := pD_;have q10 : (x4_1 : Int) < ((x3_1.length : Int) : Int) := pD_;obtain ⟨go10,co10,eo10,gb10,gl10,cl10,HG10⟩ := Kd.R_form HO_3.out (by omega);(first | cases eo10 | (injection eo10 with ea_ en_ ec_;(first | subst ea_ | (injection ea_ with ea_;subst ea_));subst ec_;clear en_));have GB10 := aM_ gb10;have GG10 := aM_ HG10;clear gb10 gl10 HG10;obtain ⟨ce10,hcl10,hM10,hcc10,hfr10⟩ := Kd.R_elem HO_3.out z35 (x4_1 : Int) p10 q10;obtain rfl := k35_openM hM10;have hx10_0 : w11.cell? ⟨go10,(x4_1 : Int).toNat * 2,none⟩ = some (.int .i64 ((rd_T35 x3_1 x4_1).f0)) := hcc10 0 _ rfl;have hx10_1 : w11.cell? ⟨go10,(x4_1 : Int).toNat * 2 + 1,none⟩ = some (.int .i64 ((rd_T35 x3_1 x4_1).f1)) := hcc10 1 _ rfl;have hf10_0 : w11.frozen? ⟨go10,(x4_1 : Int).toNat * 2,none⟩ = false := hfr10 0;have hf10_1 : w11.frozen? ⟨go10,(x4_1 : Int).toNat * 2 + 1,none⟩ = false := hfr10 1;(try clear hcl10);(try clear hcc10);(try clear hfr10);(try clear hM10);replace p10 := eq_true p10;replace q10 := eq_true q10;have HX12 := aM_ (show Kd.R k35 35 w11 w.heap.size (fun _ => True) (.slice (some ⟨go10,0,none⟩) x3_1.length co10) x3_1 from (by (with_reducible repeat (first | apply rA_ | apply rN_ | apply rD_));exact HO_3.out));obtain ⟨ce12,hcl12,hM12,hcc12,hfr12⟩ := Kd.R_elem HX12.out z35 (x4_1 : Int) (pD_) (by have h_ : (x4_1 : Int) < ((x3_1.length : Int) : Int) := pD_;first | exact h_ | (have e_ := (Kd.R_reads' HO_3.out).1;omega) | simpa using h_);obtain rfl := k35_openM hM12;have HP12 := Kd.R_seg HX12.out (x4_1 : Int) (pD_) (by have h_ : (x4_1 : Int) < ((x3_1.length : Int) : Int) := pD_;first | exact h_ | (have e_ := (Kd.R_reads' HO_3.out).1;omega) | simpa using h_) (seg := [.int .i64 t241,.int .i64 t242]) (j := 0) hcl12 hcc12 (show 2 ≤ 2 from by decide) (x' := (⟨t241,t242⟩ : S35)) (k35_mkM _ _ _ (⟨t241,t242⟩ : S35) ) (fun _ hk => hk);have hx12_0 := hcc12 0 _ rfl;(try simp only [show (k35).sz = 2 from rfl,Nat.mul_one,Nat.add_zero] at hx12_0);have hf12_0 := hfr12 0;(try simp only [show (k35).sz = 2 from rfl,Nat.mul_one,Nat.add_zero] at hf12_0);have hx12_1 := hcc12 1 _ rfl;(try simp only [show (k35).sz = 2 from rfl,Nat.mul_one,Nat.add_zero] at hx12_1);have hf12_1 := hfr12 1;(try simp only [show (k35).sz = 2 from rfl,Nat.mul_one,Nat.add_zero] at hf12_1);(try clear hcl12);(try clear hcc12);(try clear hfr12);(try clear hM12)) | ((with_reducible refine gate_store (t := 35) (p := 21) rfl ?_);refine store_event (t := 35) (p := 21) (v := ?vo_w13) (w1 := ((w11.setCell ⟨go10,(x4_1 : Int).toNat * 2,none⟩ (.int .i64 t241)).setCell ⟨go10,(x4_1 : Int).toNat * 2 + 1,none⟩ (.int .i64 t242))) ?hg ?ho ?hn ?hr ?_;(case ho => rfl);(case hg => rfl);(case hn => rfl);(case hr => first | (go_simp;done) | (go_simp;rfl));intro w13 hw;have hg : w11.grownBy w13 (some go10) := (by rw [hw];exact HP12.2);have hp_ : Kd.R k35 35 w13 w.heap.size (fun _ => True) (.slice (some ⟨go10,0,none⟩) x3_1.length co10) y243 := (by rw [hw,Ny243.out];exact HP12.1);clear HP12;replace HO_3 := aM_ (hp_);replace HB := aM_ ((by rw [hw];exact below_set (below_set (HB.out) GB10.out) GB10.out : Below w.heap.size w w13));clear hg hw hp_))
        go_roundg k1
        case measure => have := HK1.out;omega
        case rel => exact ⟨(y243),(wrap64 (x4_1 + 1)),(by first | rfl | (simp;done) | (simp [*];done)),H',⟨by have := HK1.out;omega⟩,⟨by (with_reducible repeat (first | apply rA_ | apply rN_ | apply rD_));exact HO_3.out⟩,⟨gW_ HB.out⟩⟩
       ·rw [if_neg c9] at H
        exact absurd H (by simp)
      ·rw [if_neg c7] at H
       exact absurd H (by simp)
     ·rw [if_neg c6] at H
      have c6b0 : decide (x4_1 < (l0.length : Int)) = false := decide_eq_false c6
      clear c6
      obtain rfl := sJ_ H
      go_wp2
      go_ret
      exact ⟨_,fR_,by (with_reducible repeat (first | apply rA_ | apply rN_ | apply rD_));exact HO_3.out,gB_ HB.out⟩
  ·rw [if_neg c3] at H
   exact absurd H (by simp)
 ·rw [if_neg c2] at H
  exact absurd H (by simp)
def laws_toSource.f (k : Nat) (l0_0 : List (S184)) (l0_1 : List (S186)) (l0_2 : List (S190)) : Option ((List (S107)) × (List (S94)) × (List (S35))) := (laws_toThreadS.f k l0_0).bind fun t247 => ((laws_toChanS.f k l0_1).bind fun t250 => ((laws_toNoteS.f k l0_2).bind fun t253 => (some (t247,t250,t253))))
set_option maxHeartbeats 8000000 in
theorem laws_toSource.calls (k : Nat) (A0_0 : Option Addr) (c0_0 : Nat) (l0_0 : List (S184)) (A0_1 : Option Addr) (c0_1 : Nat) (l0_1 : List (S186)) (A0_2 : Option Addr) (c0_2 : Nat) (l0_2 : List (S190)) (r1 : List (S107)) (r2 : List (S94)) (r3 : List (S35)) (w : World) (hr0_0 : Kd.C k184 w A0_0 l0_0.length l0_0) (hc0_0 : l0_0.length ≤ c0_0) (hr0_1 : Kd.C k186 w A0_1 l0_1.length l0_1) (hc0_1 : l0_1.length ≤ c0_1) (hr0_2 : Kd.C k190 w A0_2 l0_2.length l0_2) (hc0_2 : l0_2.length ≤ c0_2) (h : laws_toSource.f k l0_0 l0_1 l0_2 = some (r1,r2,r3)) :
  Calls Try.prog 35 #[.agg #[.slice A0_0 l0_0.length c0_0,.slice A0_1 l0_1.length c0_1,.slice A0_2 l0_2.length c0_2]] w fun e w' => ∃ v0_ v1_ v2_ : Value,e = .returned (.agg #[v0_,v1_,v2_]) ∧ Kd.S k107 107 w' w.heap.size (fun _ => True) v0_ r1 ∧ Kd.S k94 94 w' w.heap.size (fun _ => True) v1_ r2 ∧ Kd.R k35 35 w' w.heap.size (fun _ => True) v2_ r3 ∧ Below w.heap.size w w' := by
 have hu72 := Try.underlying72
 have hu28 := Try.underlying28
 have HR0_0 := aM_ hr0_0
 have HC0_0 := aM_ hc0_0
 clear hr0_0 hc0_0
 have HR0_1 := aM_ hr0_1
 have HC0_1 := aM_ hc0_1
 clear hr0_1 hc0_1
 have HR0_2 := aM_ hr0_2
 have HC0_2 := aM_ hc0_2
 clear hr0_2 hc0_2
 have HB := aM_ (Below.refl w.heap.size w)
 have H : ((laws_toThreadS.f k l0_0).bind fun t247 => ((laws_toChanS.f k l0_1).bind fun t250 => ((laws_toNoteS.f k l0_2).bind fun t253 => (some (t247,t250,t253))))) = some (r1,r2,r3) := h
 clear h
 replace H := Option.bind_eq_some_iff.mp H
 obtain ⟨t247,A20,H⟩ := H
 replace H : ((laws_toChanS.f k l0_1).bind fun t250 => ((laws_toNoteS.f k l0_2).bind fun t253 => (some (t247,t250,t253)))) = some (r1,r2,r3) := H
 have A2 := aM_ A20
 clear A20
 replace H := Option.bind_eq_some_iff.mp H
 obtain ⟨t250,A30,H⟩ := H
 replace H : ((laws_toNoteS.f k l0_2).bind fun t253 => (some (t247,t250,t253))) = some (r1,r2,r3) := H
 have A3 := aM_ A30
 clear A30
 replace H := Option.bind_eq_some_iff.mp H
 obtain ⟨t253,A40,H⟩ := H
 replace H : (some (t247,t250,t253)) = some (r1,r2,r3) := H
 have A4 := aM_ A40
 clear A40
 simp only [Option.some.injEq,Prod.mk.injEq] at H
 obtain ⟨rfl,rfl,rfl⟩ := H
 go_enter Try.func35,Try.ntmps35
 go_wp2_with (first | (refine bX_ 1 (cs := #[.slice A0_0 l0_0.length c0_0,.slice A0_1 l0_1.length c0_1,.slice A0_2 l0_2.length c0_2]) (t := 72) ?_;intro gb244 hg w5 hbox hb;have BK244 := aM_ (hbox);have GE244 := aM_ (sZ_ hg HB.out);replace HB := aM_ (sT_ HB.out hb);clear hb hbox hg) | (refine bX_ 2 (cs := #[.slice none 0 0,.slice none 0 0,.slice none 0 0]) (t := 28) ?_;intro gb245 hg w6 hbox hb;have BK245 := aM_ (hbox);have GE245 := aM_ (sZ_ hg HB.out);have NB244_245 := aM_ (nL_ hg BK244.out);have NB245_244 := aM_ (nG_ hg BK244.out);replace BK244 := aM_ (nB_ BK244.out hb);replace HB := aM_ (sT_ HB.out hb);clear hb hbox hg) | (refine bX_ 3 (cs := #[.slice none 0 0,.slice none 0 0,.slice none 0 0]) (t := 28) ?_;intro gb246 hg w7 hbox hb;have BK246 := aM_ (hbox);have GE246 := aM_ (sZ_ hg HB.out);have NB244_246 := aM_ (nL_ hg BK244.out);have NB246_244 := aM_ (nG_ hg BK244.out);have NB245_246 := aM_ (nL_ hg BK245.out);have NB246_245 := aM_ (nG_ hg BK245.out);replace BK244 := aM_ (nB_ BK244.out hb);replace BK245 := aM_ (nB_ BK245.out hb);replace HB := aM_ (sT_ HB.out hb);clear hb hbox hg;have hnb8 := nn_ NB244_245 NB245_244;have hnb9 := nn_ NB244_246 NB246_244;have z_10 := bR3_ BK244.out) | (refine gL_ (some 6) Try.func95 #[.slice A0_0 l0_0.length c0_0] ?_;(with_reducible refine (laws_toThreadS.calls k _ _ l0_0 t247 _ ?side1 HC0_0.out A2.out).mono ?_);(case side1 => exact cS_ (Kd.C_below HR0_0.out HB.out));rintro e w11 ⟨v248,rfl,ho0,hb⟩;refine ⟨_,rfl,?_⟩;have HO249 := aM_ (Kd.S_lower ho0 (below_size (gB_ HB.out)));replace BK244 := aM_ (nB_ BK244.out hb);replace BK245 := aM_ (nB_ BK245.out hb);replace BK246 := aM_ (nB_ BK246.out hb);replace HB := aM_ (sT_ HB.out hb);(try clear ho0);obtain ⟨Ao12,co12,eo12⟩ := Kd.S_slice HO249.out;subst eo12;have hnb13 := nn_ NB246_245 NB245_246;have z_14 := bR3_ BK246.out;have z_15 := bR3_ BK244.out) | (refine gL_ (some 10) Try.func96 #[.slice A0_1 l0_1.length c0_1] ?_;(with_reducible refine (laws_toChanS.calls k _ _ l0_1 t250 _ ?side1 HC0_1.out A3.out).mono ?_);(case side1 => exact Kd.C_below HR0_1.out (gB_ HB.out));rintro e w16 ⟨v251,rfl,ho0,hb⟩;refine ⟨_,rfl,?_⟩;have HO252 := aM_ (Kd.S_lower ho0 (below_size (gB_ HB.out)));replace HO249 := aM_ (Kd.S_below (by (with_reducible repeat (first | apply Kd.S_alloc | apply Kd.S_drewN | apply Kd.S_drew));exact (Kd.S_mono (Kd.S_far (p := ⟨gb246,0,none⟩) (Kd.S_types HO249.out BK246.out (by decide)) (fun _ hk => hk.2) (.slice Ao12 t247.length co12)) (fun _ h_ => h_.1))) hb);replace BK244 := aM_ (nBf_ BK244.out hb);replace BK245 := aM_ (nBf_ BK245.out hb);replace BK246 := aM_ (blk_below (g := gb246) (o := .cells #[.slice Ao12 t247.length co12,.slice none 0 0,.slice none 0 0] 28 (0,0)) (by (with_reducible repeat (first | refine bN_ ?_ _ | refine bD_ ?_ | refine bA_ ?_ _));refine blk_put (cs := #[.slice none 0 0,.slice none 0 0,.slice none 0 0]) ?_ 0 _ rfl;exact rW_ BK246.out) hb);replace HB := aM_ (sT_ HB.out hb);(try clear ho0);obtain ⟨Ao17,co17,eo17⟩ := Kd.S_slice HO252.out;subst eo17;have z_18 := bR3_ BK246.out;have z_19 := bR3_ BK244.out) | (refine gL_ (some 14) Try.func97 #[.slice A0_2 l0_2.length c0_2] ?_;(with_reducible refine (laws_toNoteS.calls k _ _ l0_2 t253 _ ?side1 HC0_2.out A4.out).mono ?_);(case side1 => exact Kd.C_below HR0_2.out (gB_ HB.out));rintro e w20 ⟨v254,rfl,ho0,hb⟩;refine ⟨_,rfl,?_⟩;have HO255 := aM_ (Kd.R_lower ho0 (below_size (gB_ HB.out)));replace HO249 := aM_ (Kd.S_below (by (with_reducible repeat (first | apply Kd.S_alloc | apply Kd.S_drewN | apply Kd.S_drew));exact (Kd.S_mono (Kd.S_far (p := ⟨gb246,1,none⟩) (Kd.S_types HO249.out BK246.out (by decide)) (fun _ hk => hk.2) (.slice Ao17 t250.length co17)) (fun _ h_ => h_.1))) hb);replace HO252 := aM_ (Kd.S_below (by (with_reducible repeat (first | apply Kd.S_alloc | apply Kd.S_drewN | apply Kd.S_drew));exact (Kd.S_mono (Kd.S_far (p := ⟨gb246,1,none⟩) (Kd.S_types HO252.out BK246.out (by decide)) (fun _ hk => hk.2) (.slice Ao17 t250.length co17)) (fun _ h_ => h_.1))) hb);replace BK244 := aM_ (nBf_ BK244.out hb);replace BK245 := aM_ (nBf_ BK245.out hb);replace BK246 := aM_ (blk_below (g := gb246) (o := .cells #[.slice Ao12 t247.length co12,.slice Ao17 t250.length co17,.slice none 0 0] 28 (0,0)) (by (with_reducible repeat (first | refine bN_ ?_ _ | refine bD_ ?_ | refine bA_ ?_ _));refine blk_put (cs := #[.slice Ao12 t247.length co12,.slice none 0 0,.slice none 0 0]) ?_ 1 _ rfl;exact rW_ BK246.out) hb);replace HB := aM_ (sT_ HB.out hb);(try clear ho0);obtain ⟨Ao21,co21,eo21⟩ := Kd.R_slice HO255.out;subst eo21;have z_22 := bR3_ BK246.out;have z_23 := bR3_ BK245.out))
 refine bodyPost_ret (results_cell_row rfl _ _ gb245 28 #[.slice Ao12 t247.length co12,.slice Ao17 t250.length co17,.slice Ao21 t253.length co21] (0,0) _ rfl (by (with_reducible repeat (first | refine bN_ ?_ _ | refine bD_ ?_ | refine bA_ ?_ _));refine blk_put (cs := #[.slice Ao12 t247.length co12,.slice Ao17 t250.length co17,.slice none 0 0]) ?_ 2 _ rfl;refine blk_put (cs := #[.slice Ao12 t247.length co12,.slice none 0 0,.slice none 0 0]) ?_ 1 _ rfl;refine blk_put (cs := #[.slice none 0 0,.slice none 0 0,.slice none 0 0]) ?_ 0 _ rfl;exact rWf_ BK245.out) Try.underlying28 rfl (by kernel_rfl)) rfl ?_
 exact ⟨_,_,_,fR_,by (with_reducible repeat (first | apply Kd.S_alloc | apply Kd.S_drewN | apply Kd.S_drew));exact Kd.S_mono (SF3_ gb245 (Kd.S_far (p := ⟨gb246,2,none⟩) (Kd.S_types (Kd.S_types HO249.out BK246.out (by decide)) BK245.out (by decide)) (fun _ hk => hk.1.2) (.slice Ao21 t253.length co21)) (fun _ hk => hk.2) (.slice Ao12 t247.length co12) (.slice Ao17 t250.length co17) (.slice Ao21 t253.length co21)) (fun _ hk => trivial),by (with_reducible repeat (first | apply Kd.S_alloc | apply Kd.S_drewN | apply Kd.S_drew));exact Kd.S_mono (SF3_ gb245 (Kd.S_far (p := ⟨gb246,2,none⟩) (Kd.S_types (Kd.S_types HO252.out BK246.out (by decide)) BK245.out (by decide)) (fun _ hk => hk.1.2) (.slice Ao21 t253.length co21)) (fun _ hk => hk.2) (.slice Ao12 t247.length co12) (.slice Ao17 t250.length co17) (.slice Ao21 t253.length co21)) (fun _ hk => trivial),by (with_reducible repeat (first | apply rA_ | apply rN_ | apply rD_));exact Kd.R_mono (RF3_ gb245 (Kd.R_far (p := ⟨gb246,2,none⟩) (Kd.R_types (Kd.R_types HO255.out BK246.out (by decide)) BK245.out (by decide)) (fun _ hk => hk.1.2) (.slice Ao21 t253.length co21)) (fun _ hk => hk.2) (.slice Ao12 t247.length co12) (.slice Ao17 t250.length co17) (.slice Ao21 t253.length co21)) (fun _ hk => trivial),gB_ HB.out⟩
def spec_l1In.f (a0 : Int) (a1 : Int) (a2 : Int) : Option (Bool) := if a0 ≥ a1 then (some (decide (a0 ≤ a2))) else (some false)
set_option maxHeartbeats 8000000 in
theorem spec_l1In.calls (a0 : Int) (a1 : Int) (a2 : Int) (r : Bool) (w : World) (h : spec_l1In.f a0 a1 a2 = some r) :
  Calls Try.prog 111 #[.int .i64 a0,.int .i64 a1,.int .i64 a2] w fun e w' => e = .returned (.bool r) ∧ Drawn0 w w' := by
 have H : (if a0 ≥ a1 then (some (decide (a0 ≤ a2))) else (some false)) = some r := h
 clear h
 by_cases c4 : a0 ≥ a1
 ·rw [if_pos c4] at H
  have c4b0 : decide (a1 ≤ a0) = true := decide_eq_true c4
  clear c4
  obtain rfl := sJ_ H
  go_enter Try.func111,Try.ntmps111
  go_wp2
  go_ret
  exact ⟨by first | rfl | (simp;done) | (simp [*];done),by repeat (first | exact Drawn0.refl _ | apply Drawn0.step)⟩
 ·rw [if_neg c4] at H
  have c4b0 : decide (a1 ≤ a0) = false := decide_eq_false c4
  clear c4
  obtain rfl := sJ_ H
  go_enter Try.func111,Try.ntmps111
  go_wp2
  go_ret
  exact ⟨by first | rfl | (simp;done) | (simp [*];done),by repeat (first | exact Drawn0.refl _ | apply Drawn0.step)⟩
theorem eqA192 (d : Nat) (w : World) (x0 y0 : Int) (x1 y1 : Int) (x2 y2 : Int) (x3 y3 : Int) (x4 y4 : Int) :
  (Op.equalIn (d + 2) 192 (.agg #[.int .i64 x0,.int .i64 x1,.int .i64 x2,.int .i64 x3,.int .i64 x4]) (.agg #[.int .i64 y0,.int .i64 y1,.int .i64 y2,.int .i64 y3,.int .i64 y4])).run Try.prog w = .ok (x0 == y0 && (x1 == y1 && (x2 == y2 && (x3 == y3 && (x4 == y4))))) w := by
 refine eqA_of Try.underlying192 (by kernel_rfl) ?_
 refine eqf_cons (by rfl) (by go_simp;rfl) (by go_simp;rfl) (by go_simp) ?_
 refine eqf_cons (by rfl) (by go_simp;rfl) (by go_simp;rfl) (by go_simp) ?_
 refine eqf_cons (by rfl) (by go_simp;rfl) (by go_simp;rfl) (by go_simp) ?_
 refine eqf_cons (by rfl) (by go_simp;rfl) (by go_simp;rfl) (by go_simp) ?_
 exact eqf_last (by rfl) (by go_simp;rfl) (by go_simp;rfl) (by go_simp)
end Go.Proofs.Ytobachfngmpeiaa.PFnExactAble
