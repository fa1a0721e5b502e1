/- A part of the proof that the law FnLoad holds for every input: the words, functions and walks that its row needs, without a condition of their own. -/
import Derived.Test.YthbcnakmnbilhaaZFnLoada2
import Derived.Test.YthbcnakmnbilhaaZFnLoada4
import Derived.Test.YthbcnakmnbilhaaZFnLoads
namespace Go.Proofs.Ythbcnakmnbilhaa.PFnLoad
open Go.RowKit Go.Proofs.YthbcnakmnbilhaaW.PrintWords Go.Proofs.YthbcnakmnbilhaaW.PrintLast Go.Proofs.YthbcnakmnbilhaaW.PrintMore
attribute [local go_sem] max2_int min2_int max_two min_two max_three min_three max_four min_four   -- for this text's walks alone
set_option linter.unusedVariables false
set_option linter.unusedSimpArgs false
def spec_Join.l0 : Nat → List Int → List Int → List Int → Int → Option (List Int)
  | 0,_,_,_,_ => none
  | k + 1,x0,x1,x5,x6 => if x6 < (x0.length : Int) then (if x6 < (x1.length : Int) then (if 0 ≤ x6 then ((spec_l1Max.f (rd x0 x6) (rd x1 x6)).bind fun t170 => (if x5.length < 17592186044416 then (spec_Join.l0 k x0 x1 (x5 ++ [t170]) (wrap64 (x6 + 1))) else (none))) else (none)) else (some x5)) else (some x5)
def spec_Join.f (k : Nat) (l0 : List Int) (l1 : List Int) : Option (List Int) := spec_Join.l0 k l0 l1 (([] : List Int)) 0
def spec_Join.T5 : Bool × List (List Nat × List Nat) := (true,[([],[]),([],[]),([],[]),([1,2],[1,2]),([3],[3]),([],[]),([],[]),([5,6],[5,6]),([7],[7]),([4,8],[4,8]),([9],[9]),([0,10,9],[0,10]),([11,11,0,1,2,3,4,5,6,7,8,9,10,11],[0,11])])
def spec_Join.B5 : List Nat := [0,0,0,6,14,0,0,96,224,510,1022,2047,4095]
theorem spec_Join.tab5 : rtab .any (opsOf Try.f96 5) = spec_Join.T5 := by kernel_rfl
theorem spec_Join.bits5 : waitsOk spec_Join.T5.2 spec_Join.B5 = true := by kernel_rfl
set_option maxHeartbeats 8000000 in
set_option maxRecDepth 100000 in
theorem spec_Join.calls (k : Nat) (A0 : Option Addr) (c0 : Nat) (l0 : List Int) (A1 : Option Addr) (c1 : Nat) (l1 : List Int) (r : List Int) (w : World) (hr0 : Kd.C (Kd.int .i64) w A0 l0.length l0) (hc0 : l0.length ≤ c0) (hr1 : Kd.C (Kd.int .i64) w A1 l1.length l1) (hc1 : l1.length ≤ c1) (h : spec_Join.f k l0 l1 = some r) :
  Calls Try.prog 96 #[.slice A0 l0.length c0,.slice A1 l1.length c1] w fun e w' => ∃ v0_ : Value,e = .returned (v0_) ∧ Kd.R (Kd.int .i64) 3 w' w.heap.size (fun _ => True) v0_ r ∧ Below w.heap.size w w' := by
 have HR0 := aM_ hr0
 have HC0 := aM_ hc0
 clear hr0 hc0
 have HR1 := aM_ hr1
 have HC1 := aM_ hc1
 clear hr1 hc1
 have HB := aM_ (Below.refl w.heap.size w)
 have H : (spec_Join.l0 k l0 l1 (([] : List Int)) 0) = some r := h
 clear h
 obtain ⟨y165,hy165⟩ : ∃ y_ : List Int,y_ = (([] : List Int)) := ⟨_,rfl⟩
 replace H : (spec_Join.l0 k l0 l1 y165 0) = some r := by first | (rw [hy165];with_reducible exact H) | (have H2_ := (Option.bind_some _ _).symm.trans H;rw [hy165];with_reducible exact H2_) | (have H2_ := (Option.bind_some _ _).symm.trans H;with_reducible exact H2_) | with_reducible exact H | (rw [hy165];exact H) | exact H
 have Ny165 := aM_ hy165
 clear hy165
 have H' := aM_ H
 clear H
 go_enter Try.func96,Try.ntmps96
 go_wp2_with (first | ((with_reducible refine gate_dst (N := 7) rfl ?_);(try (refine gate_guard (by rfl) ?_;dsimp only));refine Kd.R_lit (Kd.int .i64) _ 3 ?hg (N := 7) ?hd (xs := ([] : List Int)) (inner := []) (ok := fun _ => True) (okp := fun _ => True) ?hr ?hp (fun _ hk => hk) trivial (Below.refl _ _) (Nat.le_refl _) (by simp) ?_;(case hd => rfl);(case hg => rfl);(case hr => first | (go_simp;done) | (go_simp;rfl));(case hp => exact (Reps.none _ _));intro v166 w3 ho4 hb hg_ hnew_;clear hg_ hnew_;(first | rw [← Ny165.out] at ho4 | (simp only [Int.reduceToNat] at ho4;rw [← Ny165.out] at ho4));have n0 := aM_ (Kd.R_lower ho4 (below_size (gB_ HB.out)));have n1 := aM_ (sT_ HB.out hb);clear HB;have HO167 := n0;have HB := n1;clear n0 n1;clear hb ho4))
 go_loopg [5,6] k (fun kq v5 v6 w' => ∃ (x5_1 : List Int) (x6_1 : Int),v6 = .int .i64 x6_1 ∧ Aside0 (spec_Join.l0 kq l0 l1 x5_1 x6_1 = some r) ∧ Aside0 (kq ≤ k) ∧ Aside0 (Kd.R (Kd.int .i64) 3 w' w.heap.size (fun _ => True) v5 x5_1) ∧ Aside0 (Below w.heap.size w w'))
 case atStart => exact ⟨(y165),(0),(by first | rfl | (simp;done) | (simp [*];done)),H',⟨Nat.le_refl _⟩,⟨by (with_reducible repeat (first | apply rA_ | apply rN_ | apply rD_));exact HO167.out⟩,⟨gW_ HB.out⟩⟩
 case round =>
  clear H'
  try clear c1
  try clear p2
  obtain ⟨x5_1,x6_1,rfl,HA,HK1,HO_5,HB⟩ := hrel
  cases gk with
  | zero => exact absurd HA.out (by simp [spec_Join.l0])
  | succ k1 =>
   have H := HA.out
   clear HA
   simp only [spec_Join.l0] at H
   by_cases c5 : x6_1 < (l0.length : Int)
   ·rw [if_pos c5] at H
    have c5b0 : decide (x6_1 < (l0.length : Int)) = true := decide_eq_true c5
    clear c5
    by_cases c6 : x6_1 < (l1.length : Int)
    ·rw [if_pos c6] at H
     have c6b0 : decide (x6_1 < (l1.length : Int)) = true := decide_eq_true c6
     clear c6
     by_cases c7 : 0 ≤ x6_1
     ·rw [if_pos c7] at H
      have c7b0 : decide (0 ≤ x6_1) = true := decide_eq_true c7
      clear c7
      replace H := Option.bind_eq_some_iff.mp H
      obtain ⟨t170,A80,H⟩ := H
      replace H : (if x5_1.length < 17592186044416 then (spec_Join.l0 k1 l0 l1 (x5_1 ++ [t170]) (wrap64 (x6_1 + 1))) else (none)) = some r := H
      have A8 := aM_ A80
      clear A80
      by_cases c9 : x5_1.length < 17592186044416
      ·rw [if_pos c9] at H
       have LMc9 := aM_ c9
       clear c9
       obtain ⟨y171,hy171⟩ : ∃ y_ : List Int,y_ = (x5_1 ++ [t170]) := ⟨_,rfl⟩
       replace H : (spec_Join.l0 k1 l0 l1 y171 (wrap64 (x6_1 + 1))) = some r := by first | (rw [hy171];with_reducible exact H) | (have H2_ := (Option.bind_some _ _).symm.trans H;rw [hy171];with_reducible exact H2_) | (have H2_ := (Option.bind_some _ _).symm.trans H;with_reducible exact H2_) | with_reducible exact H | (rw [hy171];exact H) | exact H
       have Ny171 := aM_ hy171
       clear hy171
       have H' := aM_ H
       clear H
       try go_wp2
       have n0 := aM_ (Kd.R_drew HO_5.out)
       have n1 := aM_ (below_drew1 HB.out)
       clear HO_5
       clear HB
       have HO_5 := n0
       have HB := n1
       clear n0 n1
       have p168 : 0 ≤ (x6_1 : Int) := of_decide_eq_true (by first | (with_reducible assumption) | assumption)
       have q168 : x6_1 < (l0.length : Int) := of_decide_eq_true (by first | (with_reducible assumption) | assumption)
       obtain ⟨ad168,e168,hx168_0⟩ := Kd.at_int HR0.out x6_1 p168 q168
       have hw168_0 := hx168_0
       cases e168
       replace hx168_0 := cB_ HB.out hx168_0
       replace p168 := eq_true p168
       replace q168 := eq_true q168
       have p169 : 0 ≤ (x6_1 : Int) := of_decide_eq_true (by first | (with_reducible assumption) | assumption)
       have q169 : x6_1 < (l1.length : Int) := of_decide_eq_true (by first | (with_reducible assumption) | assumption)
       obtain ⟨ad169,e169,hx169_0⟩ := Kd.at_int HR1.out x6_1 p169 q169
       have hw169_0 := hx169_0
       cases e169
       replace hx169_0 := cB_ HB.out hx169_0
       replace p169 := eq_true p169
       replace q169 := eq_true q169
       refine start_ (n := 13) (S := fun w' => w'.cell? (ad168.add (x6_1).toNat) = some (.int .i64 (rd l0 x6_1)) ∧ w'.cell? (ad169.add (x6_1).toNat) = some (.int .i64 (rd l1 x6_1))) (ds := []) (mk_ 13 0) (by kernel_rfl) rfl rfl ⟨(cB_ HB.out hw168_0 :),(cB_ HB.out hw169_0 :)⟩ (fun hHeld => ?_);refine with_tabW spec_Join.tab5 spec_Join.bits5 (fun HT_ HW_ => ?_)
       generalize wr.drew = w10 at HO_5 HB hx168_0 hx169_0 hHeld ⊢
       refine pU_ 0 (some 20) (mk_ 13 1) ?_
       refine pU_ 1 (some 21) (mk_ 13 3) ?_
       refine pU_ 2 (some 22) (mk_ 13 7) ?_
       refine pU_ 3 (some 23) (mk_ 13 15) ?_
       refine pU_ 5 (some 25) (mk_ 13 47) ?_
       refine pU_ 6 (some 26) (mk_ 13 111) ?_
       refine pU_ 7 (some 27) (mk_ 13 239) ?_
       refine tK2_ 4 (some 24) (mk_ 13 255) ?_
       refine tK2_ 8 (some 28) (mk_ 13 511) ?_
       refine oN_ 9 (some 29) (mk_ 13 1023) (fun K hK => ?_)
       refine gO_ Try.func95 #[.int .i64 (rd l0 x6_1),.int .i64 (rd l1 x6_1)] ?_
       with_reducible refine (spec_l1Max.calls (rd l0 x6_1) (rd l1 x6_1) t170 _ A8.out).mono ?_
       rintro e w' ⟨rfl,⟨nd,rfl⟩⟩
       refine ⟨_,rfl,?_⟩
       refine hK.out _ _ ⟨(cB_ HB.out hw168_0 :),(cB_ HB.out hw169_0 :)⟩ (fun hHeld => ?_)
       clear hK K
       refine norm_ (a' := ?_) ?_ ?_
       rotate_left
       ·show Act.put _ (some 29) _ = _
        simp only [pt_,pn_,sI_,s0_,s1_,i64_w,i32_w]
        rfl
       refine oN_ 10 (some 30) (mk_ 13 2047) (fun K hK => ?_)
       refine value_ (w1 := ?_) (v := ?_) (by rfl) rfl ?_ ?_
       rotate_left 2
       ·go_simp
        constructor
        ·rfl
        ·rfl
       refine hK.out _ _ ⟨(World.cell?_alloc_lt _ _ _ (World.block_lt_of_cell? _ _ ((cB_ HB.out hw168_0 :)))).trans ((cB_ HB.out hw168_0 :)),(World.cell?_alloc_lt _ _ _ (World.block_lt_of_cell? _ _ ((cB_ HB.out hw169_0 :)))).trans ((cB_ HB.out hw169_0 :))⟩ (fun hHeld => ?_)
       clear hK K
       refine norm_ (a' := ?_) ?_ ?_
       rotate_left
       ·show Act.put _ (some 30) _ = _
        simp only [pt_,pn_,sI_,s0_,s1_,i64_w,i32_w]
        rfl
       refine oN_ 11 (some 31) (mk_ 13 4095) (fun K hK => ?_)
       refine Kd.R_append_step (Kd.int .i64) (w0 := w) w.heap.size (by rfl) (.tmp 20) (.tmp 30) 31 3 (.int .i64 0) 8 rfl Try.underlying31 info3 rfl (by decide) (by omega) u5 x5_1 t170 [.int .i64 t170] (fun _ => True) (fun _ => False) rfl rfl ?aP (fun _ hk => hk.elim) ?aF ?aO ?aB ?aS ?aL ?_
       (case aP => exact rfl)
       (case aB => exact (gB_ HB.out))
       (case aF => exact (fun _ _ => trivial))
       (case aO => exact (by (with_reducible repeat (first | apply rA_ | apply rN_ | apply rD_));exact HO_5.out))
       (case aS => exact (below_size (gB_ HB.out)))
       (case aL => have := LMc9.out;omega)
       intro v172 w11 ho hb hg hat
       rw [← Ny171.out] at ho
       have n0 := aM_ (hb)
       have n1 := aM_ (ho)
       clear HB
       clear HO_5
       have HB := n0
       have HO173 := n1
       clear n0 n1
       clear ho hb hg hat
       refine hK.out _ _ ⟨(cB_ HB.out hw168_0 :),(cB_ HB.out hw169_0 :)⟩ (fun hHeld => ?_)
       clear hK K
       refine norm_ (a' := ?_) ?_ ?_
       rotate_left
       ·show Act.put _ (some 31) _ = _
        simp only [pt_,pn_,sI_,s0_,s1_,i64_w,i32_w]
        rfl
       refine pU_ 12 (some 5) (mk_ 13 8191) ?_
       refine done_ (done_of HT_.out (by kernel_rfl)) ?_
       try go_wp2
       go_roundg k1
       case measure => have := HK1.out;omega
       case rel => exact ⟨(y171),(wrap64 (x6_1 + 1)),(by first | rfl | (simp;done) | (simp [*];done)),H',⟨by have := HK1.out;omega⟩,⟨by (with_reducible repeat (first | apply rA_ | apply rN_ | apply rD_));exact HO173.out⟩,⟨gW_ HB.out⟩⟩
      ·rw [if_neg c9] at H
       exact absurd H (by simp)
     ·rw [if_neg c7] at H
      exact absurd H (by simp)
    ·rw [if_neg c6] at H
     have c6b0 : decide (x6_1 < (l1.length : Int)) = false := decide_eq_false c6
     clear c6
     obtain rfl := Option.some.inj H
     go_wp2
     go_ret
     exact ⟨_,fR_,by (with_reducible repeat (first | apply rA_ | apply rN_ | apply rD_));exact HO_5.out,gB_ HB.out⟩
   ·rw [if_neg c5] at H
    have c5b0 : decide (x6_1 < (l0.length : Int)) = false := decide_eq_false c5
    clear c5
    obtain rfl := Option.some.inj H
    go_wp2
    go_ret
    exact ⟨_,fR_,by (with_reducible repeat (first | apply rA_ | apply rN_ | apply rD_));exact HO_5.out,gB_ HB.out⟩
def spec_l6Load.f (k : Nat) (l0_0 : List (List (S43))) (l1 : List Int) (a2 : Int) (a3 : Int) (a4 : Bool) : Option (Int × List Int) := if 0 ≤ a2 then (if a2 < (l0_0.length : Int) then ((spec_l1Max.f a3 0).bind fun t176 => (if a2 < (l1.length : Int) then ((spec_l1Max.f (wrap64 ((wrap64 (((rd_L4 l0_0 a2).length : Int) - 1)) - t176)) (rd l1 a2)).bind fun t178 => ((some (([] : List Int) : List Int)).bind fun y179 => (if y179.length + l1.length < 17592186044416 then ((some (y179 ++ l1 : List Int)).bind fun y182 => (if a2 < (y182.length : Int) then ((some (y182.set (a2 : Int).toNat t178 : List Int)).bind fun y185 => (if a4 = true then (if 0 ≤ t178 then (if t178 < ((rd_L4 l0_0 a2).length : Int) then ((spec_Join.f k y185 ((rd_T43 (rd_L4 l0_0 a2) t178).f1)).bind fun t187 => (some ((rd_T43 (rd_L4 l0_0 a2) t178).f0,t187))) else (none)) else (none)) else (if 0 ≤ t178 then (if t178 < ((rd_L4 l0_0 a2).length : Int) then (some ((rd_T43 (rd_L4 l0_0 a2) t178).f0,y185)) else (none)) else (none)))) else (none))) else (none)))) else (none))) else (none)) else (none)
set_option maxHeartbeats 8000000 in
set_option maxRecDepth 100000 in
theorem spec_l6Load.calls (k : Nat) (A0_0 : Option Addr) (c0_0 : Nat) (l0_0 : List (List (S43))) (A1 : Option Addr) (c1 : Nat) (l1 : List Int) (a2 : Int) (a3 : Int) (a4 : Bool) (r1 : Int) (r2 : List Int) (w : World) (hr0_0 : Kd.C (Kd.slice 43 k43) w A0_0 l0_0.length l0_0) (hc0_0 : l0_0.length ≤ c0_0) (hr1 : Kd.C (Kd.int .i64) w A1 l1.length l1) (hc1 : l1.length ≤ c1) (h : spec_l6Load.f k l0_0 l1 a2 a3 a4 = some (r1,r2)) :
  Calls Try.prog 62 #[.agg #[.slice A0_0 l0_0.length c0_0],.slice A1 l1.length c1,.int .i64 a2,.int .i64 a3,.bool a4] w fun e w' => ∃ v1_ : Value,e = .returned (.tuple #[.int .i64 r1,v1_]) ∧ Kd.R (Kd.int .i64) 3 w' w.heap.size (fun _ => True) v1_ r2 ∧ Below w.heap.size w w' := by
 have hu24 := Try.underlying24
 have HR0_0 := aM_ hr0_0
 have HC0_0 := aM_ hc0_0
 clear hr0_0 hc0_0
 have HR1 := aM_ hr1
 have HC1 := aM_ hc1
 clear hr1 hc1
 have HB := aM_ (Below.refl w.heap.size w)
 have H : (if 0 ≤ a2 then (if a2 < (l0_0.length : Int) then ((spec_l1Max.f a3 0).bind fun t176 => (if a2 < (l1.length : Int) then ((spec_l1Max.f (wrap64 ((wrap64 (((rd_L4 l0_0 a2).length : Int) - 1)) - t176)) (rd l1 a2)).bind fun t178 => ((some (([] : List Int) : List Int)).bind fun y179 => (if y179.length + l1.length < 17592186044416 then ((some (y179 ++ l1 : List Int)).bind fun y182 => (if a2 < (y182.length : Int) then ((some (y182.set (a2 : Int).toNat t178 : List Int)).bind fun y185 => (if a4 = true then (if 0 ≤ t178 then (if t178 < ((rd_L4 l0_0 a2).length : Int) then ((spec_Join.f k y185 ((rd_T43 (rd_L4 l0_0 a2) t178).f1)).bind fun t187 => (some ((rd_T43 (rd_L4 l0_0 a2) t178).f0,t187))) else (none)) else (none)) else (if 0 ≤ t178 then (if t178 < ((rd_L4 l0_0 a2).length : Int) then (some ((rd_T43 (rd_L4 l0_0 a2) t178).f0,y185)) else (none)) else (none)))) else (none))) else (none)))) else (none))) else (none)) else (none)) = some (r1,r2) := h
 clear h
 by_cases c6 : 0 ≤ a2
 ·rw [if_pos c6] at H
  have c6b0 : decide (0 ≤ a2) = true := decide_eq_true c6
  clear c6
  by_cases c7 : a2 < (l0_0.length : Int)
  ·rw [if_pos c7] at H
   have c7b0 : decide (a2 < (l0_0.length : Int)) = true := decide_eq_true c7
   clear c7
   replace H := Option.bind_eq_some_iff.mp H
   obtain ⟨t176,A80,H⟩ := H
   replace H : (if a2 < (l1.length : Int) then ((spec_l1Max.f (wrap64 ((wrap64 (((rd_L4 l0_0 a2).length : Int) - 1)) - t176)) (rd l1 a2)).bind fun t178 => ((some (([] : List Int) : List Int)).bind fun y179 => (if y179.length + l1.length < 17592186044416 then ((some (y179 ++ l1 : List Int)).bind fun y182 => (if a2 < (y182.length : Int) then ((some (y182.set (a2 : Int).toNat t178 : List Int)).bind fun y185 => (if a4 = true then (if 0 ≤ t178 then (if t178 < ((rd_L4 l0_0 a2).length : Int) then ((spec_Join.f k y185 ((rd_T43 (rd_L4 l0_0 a2) t178).f1)).bind fun t187 => (some ((rd_T43 (rd_L4 l0_0 a2) t178).f0,t187))) else (none)) else (none)) else (if 0 ≤ t178 then (if t178 < ((rd_L4 l0_0 a2).length : Int) then (some ((rd_T43 (rd_L4 l0_0 a2) t178).f0,y185)) else (none)) else (none)))) else (none))) else (none)))) else (none)) = some (r1,r2) := H
   have A8 := aM_ A80
   clear A80
   by_cases c9 : a2 < (l1.length : Int)
   ·rw [if_pos c9] at H
    have c9b0 : decide (a2 < (l1.length : Int)) = true := decide_eq_true c9
    clear c9
    replace H := Option.bind_eq_some_iff.mp H
    obtain ⟨t178,A100,H⟩ := H
    replace H : ((some (([] : List Int) : List Int)).bind fun y179 => (if y179.length + l1.length < 17592186044416 then ((some (y179 ++ l1 : List Int)).bind fun y182 => (if a2 < (y182.length : Int) then ((some (y182.set (a2 : Int).toNat t178 : List Int)).bind fun y185 => (if a4 = true then (if 0 ≤ t178 then (if t178 < ((rd_L4 l0_0 a2).length : Int) then ((spec_Join.f k y185 ((rd_T43 (rd_L4 l0_0 a2) t178).f1)).bind fun t187 => (some ((rd_T43 (rd_L4 l0_0 a2) t178).f0,t187))) else (none)) else (none)) else (if 0 ≤ t178 then (if t178 < ((rd_L4 l0_0 a2).length : Int) then (some ((rd_T43 (rd_L4 l0_0 a2) t178).f0,y185)) else (none)) else (none)))) else (none))) else (none))) = some (r1,r2) := H
    have A10 := aM_ A100
    clear A100
    obtain ⟨y179,hy179⟩ : ∃ y_ : List Int,y_ = (([] : List Int)) := ⟨_,rfl⟩
    replace H : (if y179.length + l1.length < 17592186044416 then ((some (y179 ++ l1 : List Int)).bind fun y182 => (if a2 < (y182.length : Int) then ((some (y182.set (a2 : Int).toNat t178 : List Int)).bind fun y185 => (if a4 = true then (if 0 ≤ t178 then (if t178 < ((rd_L4 l0_0 a2).length : Int) then ((spec_Join.f k y185 ((rd_T43 (rd_L4 l0_0 a2) t178).f1)).bind fun t187 => (some ((rd_T43 (rd_L4 l0_0 a2) t178).f0,t187))) else (none)) else (none)) else (if 0 ≤ t178 then (if t178 < ((rd_L4 l0_0 a2).length : Int) then (some ((rd_T43 (rd_L4 l0_0 a2) t178).f0,y185)) else (none)) else (none)))) else (none))) else (none)) = some (r1,r2) := by first | (rw [hy179];with_reducible exact H) | (have H2_ := (Option.bind_some _ _).symm.trans H;rw [hy179];with_reducible exact H2_) | (have H2_ := (Option.bind_some _ _).symm.trans H;with_reducible exact H2_) | with_reducible exact H | (rw [hy179];exact H) | exact H
    have Ny179 := aM_ hy179
    clear hy179
    by_cases c11 : y179.length + l1.length < 17592186044416
    ·rw [if_pos c11] at H
     have LMc11 := aM_ c11
     clear c11
     obtain ⟨y182,hy182⟩ : ∃ y_ : List Int,y_ = (y179 ++ l1) := ⟨_,rfl⟩
     replace H : (if a2 < (y182.length : Int) then ((some (y182.set (a2 : Int).toNat t178 : List Int)).bind fun y185 => (if a4 = true then (if 0 ≤ t178 then (if t178 < ((rd_L4 l0_0 a2).length : Int) then ((spec_Join.f k y185 ((rd_T43 (rd_L4 l0_0 a2) t178).f1)).bind fun t187 => (some ((rd_T43 (rd_L4 l0_0 a2) t178).f0,t187))) else (none)) else (none)) else (if 0 ≤ t178 then (if t178 < ((rd_L4 l0_0 a2).length : Int) then (some ((rd_T43 (rd_L4 l0_0 a2) t178).f0,y185)) else (none)) else (none)))) else (none)) = some (r1,r2) := by first | (rw [hy182];with_reducible exact H) | (have H2_ := (Option.bind_some _ _).symm.trans H;rw [hy182];with_reducible exact H2_) | (have H2_ := (Option.bind_some _ _).symm.trans H;with_reducible exact H2_) | with_reducible exact H | (rw [hy182];exact H) | exact H
     have Ny182 := aM_ hy182
     clear hy182
     by_cases c12 : a2 < (y182.length : Int)
     ·rw [if_pos c12] at H
      have c12b0 : decide (a2 < (y182.length : Int)) = true := decide_eq_true c12
      clear c12
      obtain ⟨y185,hy185⟩ : ∃ y_ : List Int,y_ = (y182.set (a2 : Int).toNat t178) := ⟨_,rfl⟩
      replace H : (if a4 = true then (if 0 ≤ t178 then (if t178 < ((rd_L4 l0_0 a2).length : Int) then ((spec_Join.f k y185 ((rd_T43 (rd_L4 l0_0 a2) t178).f1)).bind fun t187 => (some ((rd_T43 (rd_L4 l0_0 a2) t178).f0,t187))) else (none)) else (none)) else (if 0 ≤ t178 then (if t178 < ((rd_L4 l0_0 a2).length : Int) then (some ((rd_T43 (rd_L4 l0_0 a2) t178).f0,y185)) else (none)) else (none))) = some (r1,r2) := by first | (rw [hy185];with_reducible exact H) | (have H2_ := (Option.bind_some _ _).symm.trans H;rw [hy185];with_reducible exact H2_) | (have H2_ := (Option.bind_some _ _).symm.trans H;with_reducible exact H2_) | with_reducible exact H | (rw [hy185];exact H) | exact H
      have Ny185 := aM_ hy185
      clear hy185
      by_cases c14 : a4 = true
      ·subst c14
       have H1 : (if 0 ≤ t178 then (if t178 < ((rd_L4 l0_0 a2).length : Int) then ((spec_Join.f k y185 ((rd_T43 (rd_L4 l0_0 a2) t178).f1)).bind fun t187 => (some ((rd_T43 (rd_L4 l0_0 a2) t178).f0,t187))) else (none)) else (none)) = some (r1,r2) := by rw [if_pos rfl] at H;exact H
       clear H
       have H := H1
       clear H1
       by_cases c15 : 0 ≤ t178
       ·rw [if_pos c15] at H
        have c15b0 : decide (0 ≤ t178) = true := decide_eq_true c15
        clear c15
        by_cases c16 : t178 < ((rd_L4 l0_0 a2).length : Int)
        ·rw [if_pos c16] at H
         have c16b0 : decide (t178 < ((rd_L4 l0_0 a2).length : Int)) = true := decide_eq_true c16
         clear c16
         replace H := Option.bind_eq_some_iff.mp H
         obtain ⟨t187,A170,H⟩ := H
         replace H : (some ((rd_T43 (rd_L4 l0_0 a2) t178).f0,t187)) = some (r1,r2) := H
         have A17 := aM_ A170
         clear A170
         simp only [Option.some.injEq,Prod.mk.injEq] at H
         obtain ⟨rfl,rfl⟩ := H
         go_enter Try.func62,Try.ntmps62
         go_wp2_with (first | ((with_reducible refine gate_dst (N := 5) rfl ?_);refine bX_ 5 (cs := #[.slice A0_0 l0_0.length c0_0]) (t := 24) ?_;intro gb174 hg w18 hbox hb;have n0 := aM_ (sT_ HB.out hb);have n1 := aM_ (hbox);have n2 := aM_ (sZ_ hg HB.out);have n3 := aM_ (sZ_ hg HB.out);clear HB;have HB := n0;have BK174 := n1;have GW174 := n2;have GE174 := n3;clear n0 n1 n2 n3;clear hb hbox hg;have hcz19_0 : w18.cell? ⟨gb174,0,none⟩ = some (.slice A0_0 l0_0.length c0_0) := (blk_cell BK174.out 0).trans rfl;have hfz19_0 := blk_frozen BK174.out 0;have p175 : 0 ≤ (a2 : Int) := of_decide_eq_true (by first | (with_reducible assumption) | assumption);have q175 : a2 < (l0_0.length : Int) := of_decide_eq_true (by first | (with_reducible assumption) | assumption);obtain ⟨ad175,A175_0,c175_0,e175,hx175_0,hl175_0,hi175_0⟩ := at_L4 HR0_0.out a2 p175 q175;cases e175;replace hx175_0 := cB_ HB.out hx175_0;have HR175_0 := aM_ hi175_0;have HC175_0 := aM_ hl175_0;clear hi175_0 hl175_0;replace p175 := eq_true p175;replace q175 := eq_true q175;have p177 : 0 ≤ (a2 : Int) := of_decide_eq_true (by first | (with_reducible assumption) | assumption);have q177 : a2 < (l1.length : Int) := of_decide_eq_true (by first | (with_reducible assumption) | assumption);obtain ⟨ad177,e177,hx177_0⟩ := Kd.at_int HR1.out a2 p177 q177;cases e177;replace hx177_0 := cB_ HB.out hx177_0;replace p177 := eq_true p177;replace q177 := eq_true q177) | (go_at_call 95;(with_reducible refine (spec_l1Max.calls a3 0 t176 _ A8.out).mono ?_);rintro e w' ⟨rfl,⟨nd,rfl⟩⟩;(try first | exact ⟨rfl,_,World.drewN_drewN _ _ _⟩ | exact ⟨rfl,_,Eq.trans (World.drewN_drewN _ _ _) (congrArg (World.drewN _) (Nat.add_assoc _ _ _))⟩)) | (go_at_call 95;(with_reducible refine (spec_l1Max.calls (wrap64 ((wrap64 (((rd_L4 l0_0 a2).length : Int) - 1)) - t176)) (rd l1 a2) t178 _ A10.out).mono ?_);rintro e w' ⟨rfl,⟨nd,rfl⟩⟩;(try first | exact ⟨rfl,_,World.drewN_drewN _ _ _⟩ | exact ⟨rfl,_,Eq.trans (World.drewN_drewN _ _ _) (congrArg (World.drewN _) (Nat.add_assoc _ _ _))⟩)) | ((with_reducible refine gate_dst (N := 31) rfl ?_);refine Kd.R_lit (Kd.int .i64) _ 3 ?hg (N := 31) ?hd (xs := ([] : List Int)) (inner := []) (ok := fun _ => True) (okp := fun _ => True) ?hr ?hp (fun _ hk => hk) trivial (Below.refl _ _) (Nat.le_refl _) (by simp) ?_;(case hd => rfl);(case hg => rfl);(case hr => first | (go_simp;done) | (go_simp;rfl));(case hp => exact (Reps.none _ _));intro v180 w20 ho21 hb hg_ hnew_;clear hg_ hnew_;(first | rw [← Ny179.out] at ho21 | (simp only [Int.reduceToNat] at ho21;rw [← Ny179.out] at ho21));have n0 := aM_ (Kd.R_lower ho21 (below_size (gB_ HB.out)));have n1 := aM_ (nB_ BK174.out hb);have n2 := aM_ (sT_ HB.out hb);clear BK174;clear HB;have HO181 := n0;have BK174 := n1;have HB := n2;clear n0 n1 n2;clear hb ho21) | ((with_reducible refine gate_builtin (b := .append) (xs := #[.tmp 31,.tmp 32]) rfl ?_);at_builtin;refine Kd.R_append_rows (Kd.int .i64) (w0 := w) w.heap.size rfl (.tmp 31) (.tmp 32) 31 3 (.int .i64 0) 8 rfl Try.underlying31 info3 rfl (by decide) (by omega) v180 y179 l1 _ _ _ (fun _ => True) (fun _ => False) rfl rfl ?aO ?aR (fun _ _ h => h) (fun _ h => h.elim) ?aF ?aB ?aS ?aL ?_;(case aR => repeat (first | exact (Kd.C_below HR1.out HB.out) | (with_reducible refine Kd.C_alloc ?_ _) | (with_reducible refine Kd.C_drewN ?_ _) | (with_reducible refine Kd.C_drew ?_)));(case aB => exact (gB_ HB.out));(case aF => exact (fun _ _ => trivial));(case aO => exact (by (with_reducible repeat (first | apply rA_ | apply rN_ | apply rD_));exact HO181.out));(case aS => exact (below_size (gB_ HB.out)));(case aL => have := LMc11.out;omega);intro v183 w22 ho hb hg hat;rw [← Ny182.out] at ho;have n0 := aM_ (blk_grown (g := gb174) (o := .cells #[.slice (some ad175) l0_0.length c0_0] 24 (0,0)) (by (with_reducible repeat (first | refine bN_ ?_ _ | refine bD_ ?_ | refine bA_ ?_ _));exact BK174.out) hg (Kd.R_ne HO181.out BK174.out (by decide)));have n1 := aM_ (hb);have n2 := aM_ (ho);clear BK174;clear HB;clear HO181;have BK174 := n0;have HB := n1;have HO184 := n2;clear n0 n1 n2;clear ho hb hg hat;have p13 : 0 ≤ (a2 : Int) := of_decide_eq_true (by first | (with_reducible assumption) | assumption);have q13 : (a2 : Int) < ((y182.length : Int) : Int) := of_decide_eq_true (by first | (with_reducible assumption) | assumption);obtain ⟨go13,co13,eo13,gb13,gl13,cl13,HG13⟩ := Kd.R_form HO184.out (by omega);(first | cases eo13 | (injection eo13 with ea_ en_ ec_;(first | subst ea_ | (injection ea_ with ea_;subst ea_));subst ec_;clear en_));have GB13 := aM_ gb13;have GG13 := aM_ HG13;clear gb13 gl13 HG13;obtain ⟨hx13_0,hf13_0⟩ := Kd.R_celln 0 HO184.out (a2 : Int) p13 q13;replace p13 := eq_true p13;replace q13 := eq_true q13;obtain ⟨hy23_,hz23_⟩ := Kd.R_celln 0 HO184.out (a2 : Int) (of_decide_eq_true (by first | (with_reducible assumption) | assumption)) (of_decide_eq_true (by first | (with_reducible assumption) | assumption));have HP23 := Kd.R_putg HO184.out (a2 : Int) t178) | ((with_reducible refine gate_store (t := 3) (p := 37) rfl ?_);(try (rw [drewN_self w22];generalize hq_ : World.drewN w22 _ = w22;have n0 := aM_ (Kd.R_at hq_ HO184.out);have n1 := aM_ (blk_at hq_ BK174.out);have n2 := aM_ (below_at hq_ HB.out);clear hq_ HO184 BK174 HB;have HO184 := n0;have BK174 := n1;have HB := n2;clear n0 n1 n2;(try (obtain ⟨hy23_,hz23_⟩ := Kd.R_celln 0 HO184.out (a2 : Int) (of_decide_eq_true (by first | (with_reducible assumption) | assumption)) (of_decide_eq_true (by first | (with_reducible assumption) | assumption))));(try (have HP23 := Kd.R_putg HO184.out (a2 : Int) t178))));refine store_event (t := 3) (p := 37) (v := ?vo_w24) (w1 := (w22.setCell ⟨go13,(a2 : Int).toNat,none⟩ (.int .i64 t178))) ?hg ?ho ?hn ?hr ?_;(case ho => rfl);(case hg => rfl);(case hn => rfl);(case hr => first | (go_simp;done) | (go_simp;rfl));intro w24 hw;have hg : w22.grownBy w24 (some go13) := (by rw [hw];exact HP23.2);have hp_ : Kd.R (Kd.int .i64) 3 w24 w.heap.size (fun _ => True) (.slice (some ⟨go13,0,none⟩) y182.length co13) y185 := (by rw [hw,Ny185.out];exact HP23.1);clear HP23;have n0 := aM_ (blk_grown (g := gb174) (o := .cells #[.slice (some ad175) l0_0.length c0_0] 24 (0,0)) (by (with_reducible repeat (first | refine bN_ ?_ _ | refine bD_ ?_ | refine bA_ ?_ _));exact BK174.out) hg (Kd.R_ne HO184.out BK174.out (by decide)));have n1 := aM_ (hp_);have n2 := aM_ ((by rw [hw];exact below_set (HB.out) GB13.out : Below w.heap.size w w24));clear BK174;clear HO184;clear HB;have BK174 := n0;have HO184 := n1;have HB := n2;clear n0 n1 n2;clear hg hw hp_;have p186 : 0 ≤ (t178 : Int) := of_decide_eq_true (by first | (with_reducible assumption) | assumption);have q186 : t178 < ((rd_L4 l0_0 a2).length : Int) := of_decide_eq_true (by first | (with_reducible assumption) | assumption);obtain ⟨ad186,A186_1,c186_1,e186,hx186_0,hx186_1,hl186_1,hi186_1⟩ := at_T43 HR175_0.out t178 p186 q186;cases e186;replace hx186_0 := cB_ HB.out hx186_0;replace hx186_1 := cB_ HB.out hx186_1;have HR186_1 := aM_ hi186_1;have HC186_1 := aM_ hl186_1;clear hi186_1 hl186_1;replace p186 := eq_true p186;replace q186 := eq_true q186) | (go_at_call 96;refine calls_of_args (args' := #[.slice (some ⟨go13,0,none⟩) y185.length co13,.slice A186_1 ((rd_T43 (rd_L4 l0_0 a2) t178).f1).length c186_1]) (by first | (rw [show y185.length = y182.length from (Kd.R_reads' HO184.out).1.symm] <;> rfl) | rfl) ?_;(with_reducible refine (spec_Join.calls k _ _ y185 _ _ ((rd_T43 (rd_L4 l0_0 a2) t178).f1) t187 _ ?side1 ?side2 ?side3 ?side4 A17.out).mono ?_);(case side1 => exact cS_ (Kd.R_reads' HO184.out).2.2);(case side2 => rw [show y185.length = y182.length from (Kd.R_reads' HO184.out).1.symm];exact (Kd.R_reads' HO184.out).2.1);(case side3 => exact cS_ (Kd.C_below HR186_1.out HB.out));(case side4 => exact HC186_1.out);rintro e w25 ⟨v188,rfl,ho0,hb⟩;have n0 := aM_ (Kd.R_elder' (by (with_reducible repeat (first | apply rA_ | apply rN_ | apply rD_));exact HO184.out) (Kd.R_base ho0) hb);have n1 := aM_ (Kd.R_lower (Kd.R_new' ho0 (Kd.R_lt (by (with_reducible repeat (first | apply rA_ | apply rN_ | apply rD_));exact HO184.out))) (below_size (gB_ HB.out)));have n2 := aM_ (nB_ BK174.out hb);have n3 := aM_ (sT_ HB.out hb);clear HO184;clear BK174;clear HB;have HO184 := n0;have HO189 := n1;have BK174 := n2;have HB := n3;clear n0 n1 n2 n3;(try clear ho0);have p190 : 0 ≤ (t178 : Int) := of_decide_eq_true (by first | (with_reducible assumption) | assumption);have q190 : t178 < ((rd_L4 l0_0 a2).length : Int) := of_decide_eq_true (by first | (with_reducible assumption) | assumption);obtain ⟨ad190,A190_1,c190_1,e190,hx190_0,hx190_1,hl190_1,hi190_1⟩ := at_T43 HR175_0.out t178 p190 q190;obtain rfl : ad186 = ad190 := (by injection e190);replace hx190_0 := cB_ HB.out hx190_0;replace hx190_1 := cB_ HB.out hx190_1;have HR190_1 := aM_ hi190_1;have HC190_1 := aM_ hl190_1;clear hi190_1 hl190_1;replace p190 := eq_true p190;replace q190 := eq_true q190))
         repeat (go_quiet (first | ((with_reducible refine gate_dst (N := 5) rfl ?_);refine bX_ 5 (cs := #[.slice A0_0 l0_0.length c0_0]) (t := 24) ?_;intro gb174 hg w18 hbox hb;have n0 := aM_ (sT_ HB.out hb);have n1 := aM_ (hbox);have n2 := aM_ (sZ_ hg HB.out);have n3 := aM_ (sZ_ hg HB.out);clear HB;have HB := n0;have BK174 := n1;have GW174 := n2;have GE174 := n3;clear n0 n1 n2 n3;clear hb hbox hg;have hcz19_0 : w18.cell? ⟨gb174,0,none⟩ = some (.slice A0_0 l0_0.length c0_0) := (blk_cell BK174.out 0).trans rfl;have hfz19_0 := blk_frozen BK174.out 0;have p175 : 0 ≤ (a2 : Int) := of_decide_eq_true (by first | (with_reducible assumption) | assumption);have q175 : a2 < (l0_0.length : Int) := of_decide_eq_true (by first | (with_reducible assumption) | assumption);obtain ⟨ad175,A175_0,c175_0,e175,hx175_0,hl175_0,hi175_0⟩ := at_L4 HR0_0.out a2 p175 q175;cases e175;replace hx175_0 := cB_ HB.out hx175_0;have HR175_0 := aM_ hi175_0;have HC175_0 := aM_ hl175_0;clear hi175_0 hl175_0;replace p175 := eq_true p175;replace q175 := eq_true q175;have p177 : 0 ≤ (a2 : Int) := of_decide_eq_true (by first | (with_reducible assumption) | assumption);have q177 : a2 < (l1.length : Int) := of_decide_eq_true (by first | (with_reducible assumption) | assumption);obtain ⟨ad177,e177,hx177_0⟩ := Kd.at_int HR1.out a2 p177 q177;cases e177;replace hx177_0 := cB_ HB.out hx177_0;replace p177 := eq_true p177;replace q177 := eq_true q177) | (go_at_call 95;(with_reducible refine (spec_l1Max.calls a3 0 t176 _ A8.out).mono ?_);rintro e w' ⟨rfl,⟨nd,rfl⟩⟩;(try first | exact ⟨rfl,_,World.drewN_drewN _ _ _⟩ | exact ⟨rfl,_,Eq.trans (World.drewN_drewN _ _ _) (congrArg (World.drewN _) (Nat.add_assoc _ _ _))⟩)) | (go_at_call 95;(with_reducible refine (spec_l1Max.calls (wrap64 ((wrap64 (((rd_L4 l0_0 a2).length : Int) - 1)) - t176)) (rd l1 a2) t178 _ A10.out).mono ?_);rintro e w' ⟨rfl,⟨nd,rfl⟩⟩;(try first | exact ⟨rfl,_,World.drewN_drewN _ _ _⟩ | exact ⟨rfl,_,Eq.trans (World.drewN_drewN _ _ _) (congrArg (World.drewN _) (Nat.add_assoc _ _ _))⟩)) | ((with_reducible refine gate_dst (N := 31) rfl ?_);refine Kd.R_lit (Kd.int .i64) _ 3 ?hg (N := 31) ?hd (xs := ([] : List Int)) (inner := []) (ok := fun _ => True) (okp := fun _ => True) ?hr ?hp (fun _ hk => hk) trivial (Below.refl _ _) (Nat.le_refl _) (by simp) ?_;(case hd => rfl);(case hg => rfl);(case hr => first | (go_simp;done) | (go_simp;rfl));(case hp => exact (Reps.none _ _));intro v180 w20 ho21 hb hg_ hnew_;clear hg_ hnew_;(first | rw [← Ny179.out] at ho21 | (simp only [Int.reduceToNat] at ho21;rw [← Ny179.out] at ho21));have n0 := aM_ (Kd.R_lower ho21 (below_size (gB_ HB.out)));have n1 := aM_ (nB_ BK174.out hb);have n2 := aM_ (sT_ HB.out hb);clear BK174;clear HB;have HO181 := n0;have BK174 := n1;have HB := n2;clear n0 n1 n2;clear hb ho21) | ((with_reducible refine gate_builtin (b := .append) (xs := #[.tmp 31,.tmp 32]) rfl ?_);at_builtin;refine Kd.R_append_rows (Kd.int .i64) (w0 := w) w.heap.size rfl (.tmp 31) (.tmp 32) 31 3 (.int .i64 0) 8 rfl Try.underlying31 info3 rfl (by decide) (by omega) v180 y179 l1 _ _ _ (fun _ => True) (fun _ => False) rfl rfl ?aO ?aR (fun _ _ h => h) (fun _ h => h.elim) ?aF ?aB ?aS ?aL ?_;(case aR => repeat (first | exact (Kd.C_below HR1.out HB.out) | (with_reducible refine Kd.C_alloc ?_ _) | (with_reducible refine Kd.C_drewN ?_ _) | (with_reducible refine Kd.C_drew ?_)));(case aB => exact (gB_ HB.out));(case aF => exact (fun _ _ => trivial));(case aO => exact (by (with_reducible repeat (first | apply rA_ | apply rN_ | apply rD_));exact HO181.out));(case aS => exact (below_size (gB_ HB.out)));(case aL => have := LMc11.out;omega);intro v183 w22 ho hb hg hat;rw [← Ny182.out] at ho;have n0 := aM_ (blk_grown (g := gb174) (o := .cells #[.slice (some ad175) l0_0.length c0_0] 24 (0,0)) (by (with_reducible repeat (first | refine bN_ ?_ _ | refine bD_ ?_ | refine bA_ ?_ _));exact BK174.out) hg (Kd.R_ne HO181.out BK174.out (by decide)));have n1 := aM_ (hb);have n2 := aM_ (ho);clear BK174;clear HB;clear HO181;have BK174 := n0;have HB := n1;have HO184 := n2;clear n0 n1 n2;clear ho hb hg hat;have p13 : 0 ≤ (a2 : Int) := of_decide_eq_true (by first | (with_reducible assumption) | assumption);have q13 : (a2 : Int) < ((y182.length : Int) : Int) := of_decide_eq_true (by first | (with_reducible assumption) | assumption);obtain ⟨go13,co13,eo13,gb13,gl13,cl13,HG13⟩ := Kd.R_form HO184.out (by omega);(first | cases eo13 | (injection eo13 with ea_ en_ ec_;(first | subst ea_ | (injection ea_ with ea_;subst ea_));subst ec_;clear en_));have GB13 := aM_ gb13;have GG13 := aM_ HG13;clear gb13 gl13 HG13;obtain ⟨hx13_0,hf13_0⟩ := Kd.R_celln 0 HO184.out (a2 : Int) p13 q13;replace p13 := eq_true p13;replace q13 := eq_true q13;obtain ⟨hy23_,hz23_⟩ := Kd.R_celln 0 HO184.out (a2 : Int) (of_decide_eq_true (by first | (with_reducible assumption) | assumption)) (of_decide_eq_true (by first | (with_reducible assumption) | assumption));have HP23 := Kd.R_putg HO184.out (a2 : Int) t178) | ((with_reducible refine gate_store (t := 3) (p := 37) rfl ?_);(try (rw [drewN_self w22];generalize hq_ : World.drewN w22 _ = w22;have n0 := aM_ (Kd.R_at hq_ HO184.out);have n1 := aM_ (blk_at hq_ BK174.out);have n2 := aM_ (below_at hq_ HB.out);clear hq_ HO184 BK174 HB;have HO184 := n0;have BK174 := n1;have HB := n2;clear n0 n1 n2;(try (obtain ⟨hy23_,hz23_⟩ := Kd.R_celln 0 HO184.out (a2 : Int) (of_decide_eq_true (by first | (with_reducible assumption) | assumption)) (of_decide_eq_true (by first | (with_reducible assumption) | assumption))));(try (have HP23 := Kd.R_putg HO184.out (a2 : Int) t178))));refine store_event (t := 3) (p := 37) (v := ?vo_w24) (w1 := (w22.setCell ⟨go13,(a2 : Int).toNat,none⟩ (.int .i64 t178))) ?hg ?ho ?hn ?hr ?_;(case ho => rfl);(case hg => rfl);(case hn => rfl);(case hr => first | (go_simp;done) | (go_simp;rfl));intro w24 hw;have hg : w22.grownBy w24 (some go13) := (by rw [hw];exact HP23.2);have hp_ : Kd.R (Kd.int .i64) 3 w24 w.heap.size (fun _ => True) (.slice (some ⟨go13,0,none⟩) y182.length co13) y185 := (by rw [hw,Ny185.out];exact HP23.1);clear HP23;have n0 := aM_ (blk_grown (g := gb174) (o := .cells #[.slice (some ad175) l0_0.length c0_0] 24 (0,0)) (by (with_reducible repeat (first | refine bN_ ?_ _ | refine bD_ ?_ | refine bA_ ?_ _));exact BK174.out) hg (Kd.R_ne HO184.out BK174.out (by decide)));have n1 := aM_ (hp_);have n2 := aM_ ((by rw [hw];exact below_set (HB.out) GB13.out : Below w.heap.size w w24));clear BK174;clear HO184;clear HB;have BK174 := n0;have HO184 := n1;have HB := n2;clear n0 n1 n2;clear hg hw hp_;have p186 : 0 ≤ (t178 : Int) := of_decide_eq_true (by first | (with_reducible assumption) | assumption);have q186 : t178 < ((rd_L4 l0_0 a2).length : Int) := of_decide_eq_true (by first | (with_reducible assumption) | assumption);obtain ⟨ad186,A186_1,c186_1,e186,hx186_0,hx186_1,hl186_1,hi186_1⟩ := at_T43 HR175_0.out t178 p186 q186;cases e186;replace hx186_0 := cB_ HB.out hx186_0;replace hx186_1 := cB_ HB.out hx186_1;have HR186_1 := aM_ hi186_1;have HC186_1 := aM_ hl186_1;clear hi186_1 hl186_1;replace p186 := eq_true p186;replace q186 := eq_true q186) | (go_at_call 96;refine calls_of_args (args' := #[.slice (some ⟨go13,0,none⟩) y185.length co13,.slice A186_1 ((rd_T43 (rd_L4 l0_0 a2) t178).f1).length c186_1]) (by first | (rw [show y185.length = y182.length from (Kd.R_reads' HO184.out).1.symm] <;> rfl) | rfl) ?_;(with_reducible refine (spec_Join.calls k _ _ y185 _ _ ((rd_T43 (rd_L4 l0_0 a2) t178).f1) t187 _ ?side1 ?side2 ?side3 ?side4 A17.out).mono ?_);(case side1 => exact cS_ (Kd.R_reads' HO184.out).2.2);(case side2 => rw [show y185.length = y182.length from (Kd.R_reads' HO184.out).1.symm];exact (Kd.R_reads' HO184.out).2.1);(case side3 => exact cS_ (Kd.C_below HR186_1.out HB.out));(case side4 => exact HC186_1.out);rintro e w25 ⟨v188,rfl,ho0,hb⟩;have n0 := aM_ (Kd.R_elder' (by (with_reducible repeat (first | apply rA_ | apply rN_ | apply rD_));exact HO184.out) (Kd.R_base ho0) hb);have n1 := aM_ (Kd.R_lower (Kd.R_new' ho0 (Kd.R_lt (by (with_reducible repeat (first | apply rA_ | apply rN_ | apply rD_));exact HO184.out))) (below_size (gB_ HB.out)));have n2 := aM_ (nB_ BK174.out hb);have n3 := aM_ (sT_ HB.out hb);clear HO184;clear BK174;clear HB;have HO184 := n0;have HO189 := n1;have BK174 := n2;have HB := n3;clear n0 n1 n2 n3;(try clear ho0);have p190 : 0 ≤ (t178 : Int) := of_decide_eq_true (by first | (with_reducible assumption) | assumption);have q190 : t178 < ((rd_L4 l0_0 a2).length : Int) := of_decide_eq_true (by first | (with_reducible assumption) | assumption);obtain ⟨ad190,A190_1,c190_1,e190,hx190_0,hx190_1,hl190_1,hi190_1⟩ := at_T43 HR175_0.out t178 p190 q190;obtain rfl : ad186 = ad190 := (by injection e190);replace hx190_0 := cB_ HB.out hx190_0;replace hx190_1 := cB_ HB.out hx190_1;have HR190_1 := aM_ hi190_1;have HC190_1 := aM_ hl190_1;clear hi190_1 hl190_1;replace p190 := eq_true p190;replace q190 := eq_true q190));try go_wp2_with (first | ((with_reducible refine gate_dst (N := 5) rfl ?_);refine bX_ 5 (cs := #[.slice A0_0 l0_0.length c0_0]) (t := 24) ?_;intro gb174 hg w18 hbox hb;have n0 := aM_ (sT_ HB.out hb);have n1 := aM_ (hbox);have n2 := aM_ (sZ_ hg HB.out);have n3 := aM_ (sZ_ hg HB.out);clear HB;have HB := n0;have BK174 := n1;have GW174 := n2;have GE174 := n3;clear n0 n1 n2 n3;clear hb hbox hg;have hcz19_0 : w18.cell? ⟨gb174,0,none⟩ = some (.slice A0_0 l0_0.length c0_0) := (blk_cell BK174.out 0).trans rfl;have hfz19_0 := blk_frozen BK174.out 0;have p175 : 0 ≤ (a2 : Int) := of_decide_eq_true (by first | (with_reducible assumption) | assumption);have q175 : a2 < (l0_0.length : Int) := of_decide_eq_true (by first | (with_reducible assumption) | assumption);obtain ⟨ad175,A175_0,c175_0,e175,hx175_0,hl175_0,hi175_0⟩ := at_L4 HR0_0.out a2 p175 q175;cases e175;replace hx175_0 := cB_ HB.out hx175_0;have HR175_0 := aM_ hi175_0;have HC175_0 := aM_ hl175_0;clear hi175_0 hl175_0;replace p175 := eq_true p175;replace q175 := eq_true q175) | (go_at_call 95;(with_reducible refine (spec_l1Max.calls a3 0 t176 _ A8.out).mono ?_);rintro e w' ⟨rfl,⟨nd,rfl⟩⟩;(try first | exact ⟨rfl,_,World.drewN_drewN _ _ _⟩ | exact ⟨rfl,_,Eq.trans (World.drewN_drewN _ _ _) (congrArg (World.drewN _) (Nat.add_assoc _ _ _))⟩);have p177 : 0 ≤ (a2 : Int) := of_decide_eq_true (by first | (with_reducible assumption) | assumption);have q177 : a2 < (l1.length : Int) := of_decide_eq_true (by first | (with_reducible assumption) | assumption);obtain ⟨ad177,e177,hx177_0⟩ := Kd.at_int HR1.out a2 p177 q177;cases e177;replace hx177_0 := cB_ HB.out hx177_0;replace p177 := eq_true p177;replace q177 := eq_true q177) | (go_at_call 95;(with_reducible refine (spec_l1Max.calls (wrap64 ((wrap64 (((rd_L4 l0_0 a2).length : Int) - 1)) - t176)) (rd l1 a2) t178 _ A10.out).mono ?_);rintro e w' ⟨rfl,⟨nd,rfl⟩⟩;(try first | exact ⟨rfl,_,World.drewN_drewN _ _ _⟩ | exact ⟨rfl,_,Eq.trans (World.drewN_drewN _ _ _) (congrArg (World.drewN _) (Nat.add_assoc _ _ _))⟩)) | ((with_reducible refine gate_dst (N := 31) rfl ?_);refine Kd.R_lit (Kd.int .i64) _ 3 ?hg (N := 31) ?hd (xs := ([] : List Int)) (inner := []) (ok := fun _ => True) (okp := fun _ => True) ?hr ?hp (fun _ hk => hk) trivial (Below.refl _ _) (Nat.le_refl _) (by simp) ?_;(case hd => rfl);(case hg => rfl);(case hr => first | (go_simp;done) | (go_simp;rfl));(case hp => exact (Reps.none _ _));intro v180 w20 ho21 hb hg_ hnew_;clear hg_ hnew_;(first | rw [← Ny179.out] at ho21 | (simp only [Int.reduceToNat] at ho21;rw [← Ny179.out] at ho21));have n0 := aM_ (Kd.R_lower ho21 (below_size (gB_ HB.out)));have n1 := aM_ (nB_ BK174.out hb);have n2 := aM_ (sT_ HB.out hb);clear BK174;clear HB;have HO181 := n0;have BK174 := n1;have HB := n2;clear n0 n1 n2;clear hb ho21) | ((with_reducible refine gate_builtin (b := .append) (xs := #[.tmp 31,.tmp 32]) rfl ?_);at_builtin;refine Kd.R_append_rows (Kd.int .i64) (w0 := w) w.heap.size rfl (.tmp 31) (.tmp 32) 31 3 (.int .i64 0) 8 rfl Try.underlying31 info3 rfl (by decide) (by omega) v180 y179 l1 _ _ _ (fun _ => True) (fun _ => False) rfl rfl ?aO ?aR (fun _ _ h => h) (fun _ h => h.elim) ?aF ?aB ?aS ?aL ?_;(case aR => repeat (first | exact (Kd.C_below HR1.out HB.out) | (with_reducible refine Kd.C_alloc ?_ _) | (with_reducible refine Kd.C_drewN ?_ _) | (with_reducible refine Kd.C_drew ?_)));(case aB => exact (gB_ HB.out));(case aF => exact (fun _ _ => trivial));(case aO => exact (by (with_reducible repeat (first | apply rA_ | apply rN_ | apply rD_));exact HO181.out));(case aS => exact (below_size (gB_ HB.out)));(case aL => have := LMc11.out;omega);intro v183 w22 ho hb hg hat;rw [← Ny182.out] at ho;have n0 := aM_ (blk_grown (g := gb174) (o := .cells #[.slice (some ad175) l0_0.length c0_0] 24 (0,0)) (by (with_reducible repeat (first | refine bN_ ?_ _ | refine bD_ ?_ | refine bA_ ?_ _));exact BK174.out) hg (Kd.R_ne HO181.out BK174.out (by decide)));have n1 := aM_ (hb);have n2 := aM_ (ho);clear BK174;clear HB;clear HO181;have BK174 := n0;have HB := n1;have HO184 := n2;clear n0 n1 n2;clear ho hb hg hat;have p13 : 0 ≤ (a2 : Int) := of_decide_eq_true (by first | (with_reducible assumption) | assumption);have q13 : (a2 : Int) < ((y182.length : Int) : Int) := of_decide_eq_true (by first | (with_reducible assumption) | assumption);obtain ⟨go13,co13,eo13,gb13,gl13,cl13,HG13⟩ := Kd.R_form HO184.out (by omega);(first | cases eo13 | (injection eo13 with ea_ en_ ec_;(first | subst ea_ | (injection ea_ with ea_;subst ea_));subst ec_;clear en_));have GB13 := aM_ gb13;have GG13 := aM_ HG13;clear gb13 gl13 HG13;obtain ⟨hx13_0,hf13_0⟩ := Kd.R_celln 0 HO184.out (a2 : Int) p13 q13;replace p13 := eq_true p13;replace q13 := eq_true q13;obtain ⟨hy23_,hz23_⟩ := Kd.R_celln 0 HO184.out (a2 : Int) (of_decide_eq_true (by first | (with_reducible assumption) | assumption)) (of_decide_eq_true (by first | (with_reducible assumption) | assumption));have HP23 := Kd.R_putg HO184.out (a2 : Int) t178) | ((with_reducible refine gate_store (t := 3) (p := 37) rfl ?_);(try (rw [drewN_self w22];generalize hq_ : World.drewN w22 _ = w22;have n0 := aM_ (Kd.R_at hq_ HO184.out);have n1 := aM_ (blk_at hq_ BK174.out);have n2 := aM_ (below_at hq_ HB.out);clear hq_ HO184 BK174 HB;have HO184 := n0;have BK174 := n1;have HB := n2;clear n0 n1 n2;(try (obtain ⟨hy23_,hz23_⟩ := Kd.R_celln 0 HO184.out (a2 : Int) (of_decide_eq_true (by first | (with_reducible assumption) | assumption)) (of_decide_eq_true (by first | (with_reducible assumption) | assumption))));(try (have HP23 := Kd.R_putg HO184.out (a2 : Int) t178))));refine store_event (t := 3) (p := 37) (v := ?vo_w24) (w1 := (w22.setCell ⟨go13,(a2 : Int).toNat,none⟩ (.int .i64 t178))) ?hg ?ho ?hn ?hr ?_;(case ho => rfl);(case hg => rfl);(case hn => rfl);(case hr => first | (go_simp;done) | (go_simp;rfl));intro w24 hw;have hg : w22.grownBy w24 (some go13) := (by rw [hw];exact HP23.2);have hp_ : Kd.R (Kd.int .i64) 3 w24 w.heap.size (fun _ => True) (.slice (some ⟨go13,0,none⟩) y182.length co13) y185 := (by rw [hw,Ny185.out];exact HP23.1);clear HP23;have n0 := aM_ (blk_grown (g := gb174) (o := .cells #[.slice (some ad175) l0_0.length c0_0] 24 (0,0)) (by (with_reducible repeat (first | refine bN_ ?_ _ | refine bD_ ?_ | refine bA_ ?_ _));exact BK174.out) hg (Kd.R_ne HO184.out BK174.out (by decide)));have n1 := aM_ (hp_);have n2 := aM_ ((by rw [hw];exact below_set (HB.out) GB13.out : Below w.heap.size w w24));clear BK174;clear HO184;clear HB;have BK174 := n0;have HO184 := n1;have HB := n2;clear n0 n1 n2;clear hg hw hp_;have p186 : 0 ≤ (t178 : Int) := of_decide_eq_true (by first | (with_reducible assumption) | assumption);have q186 : t178 < ((rd_L4 l0_0 a2).length : Int) := of_decide_eq_true (by first | (with_reducible assumption) | assumption);obtain ⟨ad186,A186_1,c186_1,e186,hx186_0,hx186_1,hl186_1,hi186_1⟩ := at_T43 HR175_0.out t178 p186 q186;cases e186;replace hx186_0 := cB_ HB.out hx186_0;replace hx186_1 := cB_ HB.out hx186_1;have HR186_1 := aM_ hi186_1;have HC186_1 := aM_ hl186_1;clear hi186_1 hl186_1;replace p186 := eq_true p186;replace q186 := eq_true q186) | (go_at_call 96;refine calls_of_args (args' := #[.slice (some ⟨go13,0,none⟩) y185.length co13,.slice A186_1 ((rd_T43 (rd_L4 l0_0 a2) t178).f1).length c186_1]) (by first | (rw [show y185.length = y182.length from (Kd.R_reads' HO184.out).1.symm] <;> rfl) | rfl) ?_;(with_reducible refine (spec_Join.calls k _ _ y185 _ _ ((rd_T43 (rd_L4 l0_0 a2) t178).f1) t187 _ ?side1 ?side2 ?side3 ?side4 A17.out).mono ?_);(case side1 => exact cS_ (Kd.R_reads' HO184.out).2.2);(case side2 => rw [show y185.length = y182.length from (Kd.R_reads' HO184.out).1.symm];exact (Kd.R_reads' HO184.out).2.1);(case side3 => exact cS_ (Kd.C_below HR186_1.out HB.out));(case side4 => exact HC186_1.out);rintro e w25 ⟨v188,rfl,ho0,hb⟩;have n0 := aM_ (Kd.R_elder' (by (with_reducible repeat (first | apply rA_ | apply rN_ | apply rD_));exact HO184.out) (Kd.R_base ho0) hb);have n1 := aM_ (Kd.R_lower (Kd.R_new' ho0 (Kd.R_lt (by (with_reducible repeat (first | apply rA_ | apply rN_ | apply rD_));exact HO184.out))) (below_size (gB_ HB.out)));have n2 := aM_ (nB_ BK174.out hb);have n3 := aM_ (sT_ HB.out hb);clear HO184;clear BK174;clear HB;have HO184 := n0;have HO189 := n1;have BK174 := n2;have HB := n3;clear n0 n1 n2 n3;(try clear ho0);have p190 : 0 ≤ (t178 : Int) := of_decide_eq_true (by first | (with_reducible assumption) | assumption);have q190 : t178 < ((rd_L4 l0_0 a2).length : Int) := of_decide_eq_true (by first | (with_reducible assumption) | assumption);obtain ⟨ad190,A190_1,c190_1,e190,hx190_0,hx190_1,hl190_1,hi190_1⟩ := at_T43 HR175_0.out t178 p190 q190;obtain rfl : ad186 = ad190 := (by injection e190);replace hx190_0 := cB_ HB.out hx190_0;replace hx190_1 := cB_ HB.out hx190_1;have HR190_1 := aM_ hi190_1;have HC190_1 := aM_ hl190_1;clear hi190_1 hl190_1;replace p190 := eq_true p190;replace q190 := eq_true q190)))
         go_ret2
         exact ⟨_,fR_,by (with_reducible repeat (first | apply rA_ | apply rN_ | apply rD_));exact Kd.R_mono HO189.out (fun _ hk => trivial),gB_ HB.out⟩
        ·rw [if_neg c16] at H
         exact absurd H (by simp)
       ·rw [if_neg c15] at H
        exact absurd H (by simp)
      ·replace c14 := Bool.eq_false_iff.mpr c14
       subst c14
       have H1 : (if 0 ≤ t178 then (if t178 < ((rd_L4 l0_0 a2).length : Int) then (some ((rd_T43 (rd_L4 l0_0 a2) t178).f0,y185)) else (none)) else (none)) = some (r1,r2) := by rw [if_neg (show ¬ (false = true) by decide)] at H;exact H
       clear H
       have H := H1
       clear H1
       by_cases c26 : 0 ≤ t178
       ·rw [if_pos c26] at H
        have c26b0 : decide (0 ≤ t178) = true := decide_eq_true c26
        clear c26
        by_cases c27 : t178 < ((rd_L4 l0_0 a2).length : Int)
        ·rw [if_pos c27] at H
         have c27b0 : decide (t178 < ((rd_L4 l0_0 a2).length : Int)) = true := decide_eq_true c27
         clear c27
         simp only [Option.some.injEq,Prod.mk.injEq] at H
         obtain ⟨rfl,rfl⟩ := H
         go_enter Try.func62,Try.ntmps62
         go_wp2_with (first | ((with_reducible refine gate_dst (N := 5) rfl ?_);refine bX_ 5 (cs := #[.slice A0_0 l0_0.length c0_0]) (t := 24) ?_;intro gb174 hg w28 hbox hb;have n0 := aM_ (sT_ HB.out hb);have n1 := aM_ (hbox);have n2 := aM_ (sZ_ hg HB.out);have n3 := aM_ (sZ_ hg HB.out);clear HB;have HB := n0;have BK174 := n1;have GW174 := n2;have GE174 := n3;clear n0 n1 n2 n3;clear hb hbox hg;have hcz29_0 : w28.cell? ⟨gb174,0,none⟩ = some (.slice A0_0 l0_0.length c0_0) := (blk_cell BK174.out 0).trans rfl;have hfz29_0 := blk_frozen BK174.out 0;have p175 : 0 ≤ (a2 : Int) := of_decide_eq_true (by first | (with_reducible assumption) | assumption);have q175 : a2 < (l0_0.length : Int) := of_decide_eq_true (by first | (with_reducible assumption) | assumption);obtain ⟨ad175,A175_0,c175_0,e175,hx175_0,hl175_0,hi175_0⟩ := at_L4 HR0_0.out a2 p175 q175;cases e175;replace hx175_0 := cB_ HB.out hx175_0;have HR175_0 := aM_ hi175_0;have HC175_0 := aM_ hl175_0;clear hi175_0 hl175_0;replace p175 := eq_true p175;replace q175 := eq_true q175;have p177 : 0 ≤ (a2 : Int) := of_decide_eq_true (by first | (with_reducible assumption) | assumption);have q177 : a2 < (l1.length : Int) := of_decide_eq_true (by first | (with_reducible assumption) | assumption);obtain ⟨ad177,e177,hx177_0⟩ := Kd.at_int HR1.out a2 p177 q177;cases e177;replace hx177_0 := cB_ HB.out hx177_0;replace p177 := eq_true p177;replace q177 := eq_true q177) | (go_at_call 95;(with_reducible refine (spec_l1Max.calls a3 0 t176 _ A8.out).mono ?_);rintro e w' ⟨rfl,⟨nd,rfl⟩⟩;(try first | exact ⟨rfl,_,World.drewN_drewN _ _ _⟩ | exact ⟨rfl,_,Eq.trans (World.drewN_drewN _ _ _) (congrArg (World.drewN _) (Nat.add_assoc _ _ _))⟩)) | (go_at_call 95;(with_reducible refine (spec_l1Max.calls (wrap64 ((wrap64 (((rd_L4 l0_0 a2).length : Int) - 1)) - t176)) (rd l1 a2) t178 _ A10.out).mono ?_);rintro e w' ⟨rfl,⟨nd,rfl⟩⟩;(try first | exact ⟨rfl,_,World.drewN_drewN _ _ _⟩ | exact ⟨rfl,_,Eq.trans (World.drewN_drewN _ _ _) (congrArg (World.drewN _) (Nat.add_assoc _ _ _))⟩)) | ((with_reducible refine gate_dst (N := 31) rfl ?_);refine Kd.R_lit (Kd.int .i64) _ 3 ?hg (N := 31) ?hd (xs := ([] : List Int)) (inner := []) (ok := fun _ => True) (okp := fun _ => True) ?hr ?hp (fun _ hk => hk) trivial (Below.refl _ _) (Nat.le_refl _) (by simp) ?_;(case hd => rfl);(case hg => rfl);(case hr => first | (go_simp;done) | (go_simp;rfl));(case hp => exact (Reps.none _ _));intro v180 w30 ho31 hb hg_ hnew_;clear hg_ hnew_;(first | rw [← Ny179.out] at ho31 | (simp only [Int.reduceToNat] at ho31;rw [← Ny179.out] at ho31));have n0 := aM_ (Kd.R_lower ho31 (below_size (gB_ HB.out)));have n1 := aM_ (nB_ BK174.out hb);have n2 := aM_ (sT_ HB.out hb);clear BK174;clear HB;have HO181 := n0;have BK174 := n1;have HB := n2;clear n0 n1 n2;clear hb ho31) | ((with_reducible refine gate_builtin (b := .append) (xs := #[.tmp 31,.tmp 32]) rfl ?_);at_builtin;refine Kd.R_append_rows (Kd.int .i64) (w0 := w) w.heap.size rfl (.tmp 31) (.tmp 32) 31 3 (.int .i64 0) 8 rfl Try.underlying31 info3 rfl (by decide) (by omega) v180 y179 l1 _ _ _ (fun _ => True) (fun _ => False) rfl rfl ?aO ?aR (fun _ _ h => h) (fun _ h => h.elim) ?aF ?aB ?aS ?aL ?_;(case aR => repeat (first | exact (Kd.C_below HR1.out HB.out) | (with_reducible refine Kd.C_alloc ?_ _) | (with_reducible refine Kd.C_drewN ?_ _) | (with_reducible refine Kd.C_drew ?_)));(case aB => exact (gB_ HB.out));(case aF => exact (fun _ _ => trivial));(case aO => exact (by (with_reducible repeat (first | apply rA_ | apply rN_ | apply rD_));exact HO181.out));(case aS => exact (below_size (gB_ HB.out)));(case aL => have := LMc11.out;omega);intro v183 w32 ho hb hg hat;rw [← Ny182.out] at ho;have n0 := aM_ (blk_grown (g := gb174) (o := .cells #[.slice (some ad175) l0_0.length c0_0] 24 (0,0)) (by (with_reducible repeat (first | refine bN_ ?_ _ | refine bD_ ?_ | refine bA_ ?_ _));exact BK174.out) hg (Kd.R_ne HO181.out BK174.out (by decide)));have n1 := aM_ (hb);have n2 := aM_ (ho);clear BK174;clear HB;clear HO181;have BK174 := n0;have HB := n1;have HO184 := n2;clear n0 n1 n2;clear ho hb hg hat;have p13 : 0 ≤ (a2 : Int) := of_decide_eq_true (by first | (with_reducible assumption) | assumption);have q13 : (a2 : Int) < ((y182.length : Int) : Int) := of_decide_eq_true (by first | (with_reducible assumption) | assumption);obtain ⟨go13,co13,eo13,gb13,gl13,cl13,HG13⟩ := Kd.R_form HO184.out (by omega);(first | cases eo13 | (injection eo13 with ea_ en_ ec_;(first | subst ea_ | (injection ea_ with ea_;subst ea_));subst ec_;clear en_));have GB13 := aM_ gb13;have GG13 := aM_ HG13;clear gb13 gl13 HG13;obtain ⟨hx13_0,hf13_0⟩ := Kd.R_celln 0 HO184.out (a2 : Int) p13 q13;replace p13 := eq_true p13;replace q13 := eq_true q13;obtain ⟨hy33_,hz33_⟩ := Kd.R_celln 0 HO184.out (a2 : Int) (of_decide_eq_true (by first | (with_reducible assumption) | assumption)) (of_decide_eq_true (by first | (with_reducible assumption) | assumption));have HP33 := Kd.R_putg HO184.out (a2 : Int) t178) | ((with_reducible refine gate_store (t := 3) (p := 37) rfl ?_);(try (rw [drewN_self w32];generalize hq_ : World.drewN w32 _ = w32;have n0 := aM_ (Kd.R_at hq_ HO184.out);have n1 := aM_ (blk_at hq_ BK174.out);have n2 := aM_ (below_at hq_ HB.out);clear hq_ HO184 BK174 HB;have HO184 := n0;have BK174 := n1;have HB := n2;clear n0 n1 n2;(try (obtain ⟨hy33_,hz33_⟩ := Kd.R_celln 0 HO184.out (a2 : Int) (of_decide_eq_true (by first | (with_reducible assumption) | assumption)) (of_decide_eq_true (by first | (with_reducible assumption) | assumption))));(try (have HP33 := Kd.R_putg HO184.out (a2 : Int) t178))));refine store_event (t := 3) (p := 37) (v := ?vo_w34) (w1 := (w32.setCell ⟨go13,(a2 : Int).toNat,none⟩ (.int .i64 t178))) ?hg ?ho ?hn ?hr ?_;(case ho => rfl);(case hg => rfl);(case hn => rfl);(case hr => first | (go_simp;done) | (go_simp;rfl));intro w34 hw;have hg : w32.grownBy w34 (some go13) := (by rw [hw];exact HP33.2);have hp_ : Kd.R (Kd.int .i64) 3 w34 w.heap.size (fun _ => True) (.slice (some ⟨go13,0,none⟩) y182.length co13) y185 := (by rw [hw,Ny185.out];exact HP33.1);clear HP33;have n0 := aM_ (blk_grown (g := gb174) (o := .cells #[.slice (some ad175) l0_0.length c0_0] 24 (0,0)) (by (with_reducible repeat (first | refine bN_ ?_ _ | refine bD_ ?_ | refine bA_ ?_ _));exact BK174.out) hg (Kd.R_ne HO184.out BK174.out (by decide)));have n1 := aM_ (hp_);have n2 := aM_ ((by rw [hw];exact below_set (HB.out) GB13.out : Below w.heap.size w w34));clear BK174;clear HO184;clear HB;have BK174 := n0;have HO184 := n1;have HB := n2;clear n0 n1 n2;clear hg hw hp_;have p191 : 0 ≤ (t178 : Int) := of_decide_eq_true (by first | (with_reducible assumption) | assumption);have q191 : t178 < ((rd_L4 l0_0 a2).length : Int) := of_decide_eq_true (by first | (with_reducible assumption) | assumption);obtain ⟨ad191,A191_1,c191_1,e191,hx191_0,hx191_1,hl191_1,hi191_1⟩ := at_T43 HR175_0.out t178 p191 q191;cases e191;replace hx191_0 := cB_ HB.out hx191_0;replace hx191_1 := cB_ HB.out hx191_1;have HR191_1 := aM_ hi191_1;have HC191_1 := aM_ hl191_1;clear hi191_1 hl191_1;replace p191 := eq_true p191;replace q191 := eq_true q191))
         repeat (go_quiet (first | ((with_reducible refine gate_dst (N := 5) rfl ?_);refine bX_ 5 (cs := #[.slice A0_0 l0_0.length c0_0]) (t := 24) ?_;intro gb174 hg w28 hbox hb;have n0 := aM_ (sT_ HB.out hb);have n1 := aM_ (hbox);have n2 := aM_ (sZ_ hg HB.out);have n3 := aM_ (sZ_ hg HB.out);clear HB;have HB := n0;have BK174 := n1;have GW174 := n2;have GE174 := n3;clear n0 n1 n2 n3;clear hb hbox hg;have hcz29_0 : w28.cell? ⟨gb174,0,none⟩ = some (.slice A0_0 l0_0.length c0_0) := (blk_cell BK174.out 0).trans rfl;have hfz29_0 := blk_frozen BK174.out 0;have p175 : 0 ≤ (a2 : Int) := of_decide_eq_true (by first | (with_reducible assumption) | assumption);have q175 : a2 < (l0_0.length : Int) := of_decide_eq_true (by first | (with_reducible assumption) | assumption);obtain ⟨ad175,A175_0,c175_0,e175,hx175_0,hl175_0,hi175_0⟩ := at_L4 HR0_0.out a2 p175 q175;cases e175;replace hx175_0 := cB_ HB.out hx175_0;have HR175_0 := aM_ hi175_0;have HC175_0 := aM_ hl175_0;clear hi175_0 hl175_0;replace p175 := eq_true p175;replace q175 := eq_true q175;have p177 : 0 ≤ (a2 : Int) := of_decide_eq_true (by first | (with_reducible assumption) | assumption);have q177 : a2 < (l1.length : Int) := of_decide_eq_true (by first | (with_reducible assumption) | assumption);obtain ⟨ad177,e177,hx177_0⟩ := Kd.at_int HR1.out a2 p177 q177;cases e177;replace hx177_0 := cB_ HB.out hx177_0;replace p177 := eq_true p177;replace q177 := eq_true q177) | (go_at_call 95;(with_reducible refine (spec_l1Max.calls a3 0 t176 _ A8.out).mono ?_);rintro e w' ⟨rfl,⟨nd,rfl⟩⟩;(try first | exact ⟨rfl,_,World.drewN_drewN _ _ _⟩ | exact ⟨rfl,_,Eq.trans (World.drewN_drewN _ _ _) (congrArg (World.drewN _) (Nat.add_assoc _ _ _))⟩)) | (go_at_call 95;(with_reducible refine (spec_l1Max.calls (wrap64 ((wrap64 (((rd_L4 l0_0 a2).length : Int) - 1)) - t176)) (rd l1 a2) t178 _ A10.out).mono ?_);rintro e w' ⟨rfl,⟨nd,rfl⟩⟩;(try first | exact ⟨rfl,_,World.drewN_drewN _ _ _⟩ | exact ⟨rfl,_,Eq.trans (World.drewN_drewN _ _ _) (congrArg (World.drewN _) (Nat.add_assoc _ _ _))⟩)) | ((with_reducible refine gate_dst (N := 31) rfl ?_);refine Kd.R_lit (Kd.int .i64) _ 3 ?hg (N := 31) ?hd (xs := ([] : List Int)) (inner := []) (ok := fun _ => True) (okp := fun _ => True) ?hr ?hp (fun _ hk => hk) trivial (Below.refl _ _) (Nat.le_refl _) (by simp) ?_;(case hd => rfl);(case hg => rfl);(case hr => first | (go_simp;done) | (go_simp;rfl));(case hp => exact (Reps.none _ _));intro v180 w30 ho31 hb hg_ hnew_;clear hg_ hnew_;(first | rw [← Ny179.out] at ho31 | (simp only [Int.reduceToNat] at ho31;rw [← Ny179.out] at ho31));have n0 := aM_ (Kd.R_lower ho31 (below_size (gB_ HB.out)));have n1 := aM_ (nB_ BK174.out hb);have n2 := aM_ (sT_ HB.out hb);clear BK174;clear HB;have HO181 := n0;have BK174 := n1;have HB := n2;clear n0 n1 n2;clear hb ho31) | ((with_reducible refine gate_builtin (b := .append) (xs := #[.tmp 31,.tmp 32]) rfl ?_);at_builtin;refine Kd.R_append_rows (Kd.int .i64) (w0 := w) w.heap.size rfl (.tmp 31) (.tmp 32) 31 3 (.int .i64 0) 8 rfl Try.underlying31 info3 rfl (by decide) (by omega) v180 y179 l1 _ _ _ (fun _ => True) (fun _ => False) rfl rfl ?aO ?aR (fun _ _ h => h) (fun _ h => h.elim) ?aF ?aB ?aS ?aL ?_;(case aR => repeat (first | exact (Kd.C_below HR1.out HB.out) | (with_reducible refine Kd.C_alloc ?_ _) | (with_reducible refine Kd.C_drewN ?_ _) | (with_reducible refine Kd.C_drew ?_)));(case aB => exact (gB_ HB.out));(case aF => exact (fun _ _ => trivial));(case aO => exact (by (with_reducible repeat (first | apply rA_ | apply rN_ | apply rD_));exact HO181.out));(case aS => exact (below_size (gB_ HB.out)));(case aL => have := LMc11.out;omega);intro v183 w32 ho hb hg hat;rw [← Ny182.out] at ho;have n0 := aM_ (blk_grown (g := gb174) (o := .cells #[.slice (some ad175) l0_0.length c0_0] 24 (0,0)) (by (with_reducible repeat (first | refine bN_ ?_ _ | refine bD_ ?_ | refine bA_ ?_ _));exact BK174.out) hg (Kd.R_ne HO181.out BK174.out (by decide)));have n1 := aM_ (hb);have n2 := aM_ (ho);clear BK174;clear HB;clear HO181;have BK174 := n0;have HB := n1;have HO184 := n2;clear n0 n1 n2;clear ho hb hg hat;have p13 : 0 ≤ (a2 : Int) := of_decide_eq_true (by first | (with_reducible assumption) | assumption);have q13 : (a2 : Int) < ((y182.length : Int) : Int) := of_decide_eq_true (by first | (with_reducible assumption) | assumption);obtain ⟨go13,co13,eo13,gb13,gl13,cl13,HG13⟩ := Kd.R_form HO184.out (by omega);(first | cases eo13 | (injection eo13 with ea_ en_ ec_;(first | subst ea_ | (injection ea_ with ea_;subst ea_));subst ec_;clear en_));have GB13 := aM_ gb13;have GG13 := aM_ HG13;clear gb13 gl13 HG13;obtain ⟨hx13_0,hf13_0⟩ := Kd.R_celln 0 HO184.out (a2 : Int) p13 q13;replace p13 := eq_true p13;replace q13 := eq_true q13;obtain ⟨hy33_,hz33_⟩ := Kd.R_celln 0 HO184.out (a2 : Int) (of_decide_eq_true (by first | (with_reducible assumption) | assumption)) (of_decide_eq_true (by first | (with_reducible assumption) | assumption));have HP33 := Kd.R_putg HO184.out (a2 : Int) t178) | ((with_reducible refine gate_store (t := 3) (p := 37) rfl ?_);(try (rw [drewN_self w32];generalize hq_ : World.drewN w32 _ = w32;have n0 := aM_ (Kd.R_at hq_ HO184.out);have n1 := aM_ (blk_at hq_ BK174.out);have n2 := aM_ (below_at hq_ HB.out);clear hq_ HO184 BK174 HB;have HO184 := n0;have BK174 := n1;have HB := n2;clear n0 n1 n2;(try (obtain ⟨hy33_,hz33_⟩ := Kd.R_celln 0 HO184.out (a2 : Int) (of_decide_eq_true (by first | (with_reducible assumption) | assumption)) (of_decide_eq_true (by first | (with_reducible assumption) | assumption))));(try (have HP33 := Kd.R_putg HO184.out (a2 : Int) t178))));refine store_event (t := 3) (p := 37) (v := ?vo_w34) (w1 := (w32.setCell ⟨go13,(a2 : Int).toNat,none⟩ (.int .i64 t178))) ?hg ?ho ?hn ?hr ?_;(case ho => rfl);(case hg => rfl);(case hn => rfl);(case hr => first | (go_simp;done) | (go_simp;rfl));intro w34 hw;have hg : w32.grownBy w34 (some go13) := (by rw [hw];exact HP33.2);have hp_ : Kd.R (Kd.int .i64) 3 w34 w.heap.size (fun _ => True) (.slice (some ⟨go13,0,none⟩) y182.length co13) y185 := (by rw [hw,Ny185.out];exact HP33.1);clear HP33;have n0 := aM_ (blk_grown (g := gb174) (o := .cells #[.slice (some ad175) l0_0.length c0_0] 24 (0,0)) (by (with_reducible repeat (first | refine bN_ ?_ _ | refine bD_ ?_ | refine bA_ ?_ _));exact BK174.out) hg (Kd.R_ne HO184.out BK174.out (by decide)));have n1 := aM_ (hp_);have n2 := aM_ ((by rw [hw];exact below_set (HB.out) GB13.out : Below w.heap.size w w34));clear BK174;clear HO184;clear HB;have BK174 := n0;have HO184 := n1;have HB := n2;clear n0 n1 n2;clear hg hw hp_;have p191 : 0 ≤ (t178 : Int) := of_decide_eq_true (by first | (with_reducible assumption) | assumption);have q191 : t178 < ((rd_L4 l0_0 a2).length : Int) := of_decide_eq_true (by first | (with_reducible assumption) | assumption);obtain ⟨ad191,A191_1,c191_1,e191,hx191_0,hx191_1,hl191_1,hi191_1⟩ := at_T43 HR175_0.out t178 p191 q191;cases e191;replace hx191_0 := cB_ HB.out hx191_0;replace hx191_1 := cB_ HB.out hx191_1;have HR191_1 := aM_ hi191_1;have HC191_1 := aM_ hl191_1;clear hi191_1 hl191_1;replace p191 := eq_true p191;replace q191 := eq_true q191));try go_wp2_with (first | ((with_reducible refine gate_dst (N := 5) rfl ?_);refine bX_ 5 (cs := #[.slice A0_0 l0_0.length c0_0]) (t := 24) ?_;intro gb174 hg w28 hbox hb;have n0 := aM_ (sT_ HB.out hb);have n1 := aM_ (hbox);have n2 := aM_ (sZ_ hg HB.out);have n3 := aM_ (sZ_ hg HB.out);clear HB;have HB := n0;have BK174 := n1;have GW174 := n2;have GE174 := n3;clear n0 n1 n2 n3;clear hb hbox hg;have hcz29_0 : w28.cell? ⟨gb174,0,none⟩ = some (.slice A0_0 l0_0.length c0_0) := (blk_cell BK174.out 0).trans rfl;have hfz29_0 := blk_frozen BK174.out 0;have p175 : 0 ≤ (a2 : Int) := of_decide_eq_true (by first | (with_reducible assumption) | assumption);have q175 : a2 < (l0_0.length : Int) := of_decide_eq_true (by first | (with_reducible assumption) | assumption);obtain ⟨ad175,A175_0,c175_0,e175,hx175_0,hl175_0,hi175_0⟩ := at_L4 HR0_0.out a2 p175 q175;cases e175;replace hx175_0 := cB_ HB.out hx175_0;have HR175_0 := aM_ hi175_0;have HC175_0 := aM_ hl175_0;clear hi175_0 hl175_0;replace p175 := eq_true p175;replace q175 := eq_true q175) | (go_at_call 95;(with_reducible refine (spec_l1Max.calls a3 0 t176 _ A8.out).mono ?_);rintro e w' ⟨rfl,⟨nd,rfl⟩⟩;(try first | exact ⟨rfl,_,World.drewN_drewN _ _ _⟩ | exact ⟨rfl,_,Eq.trans (World.drewN_drewN _ _ _) (congrArg (World.drewN _) (Nat.add_assoc _ _ _))⟩);have p177 : 0 ≤ (a2 : Int) := of_decide_eq_true (by first | (with_reducible assumption) | assumption);have q177 : a2 < (l1.length : Int) := of_decide_eq_true (by first | (with_reducible assumption) | assumption);obtain ⟨ad177,e177,hx177_0⟩ := Kd.at_int HR1.out a2 p177 q177;cases e177;replace hx177_0 := cB_ HB.out hx177_0;replace p177 := eq_true p177;replace q177 := eq_true q177) | (go_at_call 95;(with_reducible refine (spec_l1Max.calls (wrap64 ((wrap64 (((rd_L4 l0_0 a2).length : Int) - 1)) - t176)) (rd l1 a2) t178 _ A10.out).mono ?_);rintro e w' ⟨rfl,⟨nd,rfl⟩⟩;(try first | exact ⟨rfl,_,World.drewN_drewN _ _ _⟩ | exact ⟨rfl,_,Eq.trans (World.drewN_drewN _ _ _) (congrArg (World.drewN _) (Nat.add_assoc _ _ _))⟩)) | ((with_reducible refine gate_dst (N := 31) rfl ?_);refine Kd.R_lit (Kd.int .i64) _ 3 ?hg (N := 31) ?hd (xs := ([] : List Int)) (inner := []) (ok := fun _ => True) (okp := fun _ => True) ?hr ?hp (fun _ hk => hk) trivial (Below.refl _ _) (Nat.le_refl _) (by simp) ?_;(case hd => rfl);(case hg => rfl);(case hr => first | (go_simp;done) | (go_simp;rfl));(case hp => exact (Reps.none _ _));intro v180 w30 ho31 hb hg_ hnew_;clear hg_ hnew_;(first | rw [← Ny179.out] at ho31 | (simp only [Int.reduceToNat] at ho31;rw [← Ny179.out] at ho31));have n0 := aM_ (Kd.R_lower ho31 (below_size (gB_ HB.out)));have n1 := aM_ (nB_ BK174.out hb);have n2 := aM_ (sT_ HB.out hb);clear BK174;clear HB;have HO181 := n0;have BK174 := n1;have HB := n2;clear n0 n1 n2;clear hb ho31) | ((with_reducible refine gate_builtin (b := .append) (xs := #[.tmp 31,.tmp 32]) rfl ?_);at_builtin;refine Kd.R_append_rows (Kd.int .i64) (w0 := w) w.heap.size rfl (.tmp 31) (.tmp 32) 31 3 (.int .i64 0) 8 rfl Try.underlying31 info3 rfl (by decide) (by omega) v180 y179 l1 _ _ _ (fun _ => True) (fun _ => False) rfl rfl ?aO ?aR (fun _ _ h => h) (fun _ h => h.elim) ?aF ?aB ?aS ?aL ?_;(case aR => repeat (first | exact (Kd.C_below HR1.out HB.out) | (with_reducible refine Kd.C_alloc ?_ _) | (with_reducible refine Kd.C_drewN ?_ _) | (with_reducible refine Kd.C_drew ?_)));(case aB => exact (gB_ HB.out));(case aF => exact (fun _ _ => trivial));(case aO => exact (by (with_reducible repeat (first | apply rA_ | apply rN_ | apply rD_));exact HO181.out));(case aS => exact (below_size (gB_ HB.out)));(case aL => have := LMc11.out;omega);intro v183 w32 ho hb hg hat;rw [← Ny182.out] at ho;have n0 := aM_ (blk_grown (g := gb174) (o := .cells #[.slice (some ad175) l0_0.length c0_0] 24 (0,0)) (by (with_reducible repeat (first | refine bN_ ?_ _ | refine bD_ ?_ | refine bA_ ?_ _));exact BK174.out) hg (Kd.R_ne HO181.out BK174.out (by decide)));have n1 := aM_ (hb);have n2 := aM_ (ho);clear BK174;clear HB;clear HO181;have BK174 := n0;have HB := n1;have HO184 := n2;clear n0 n1 n2;clear ho hb hg hat;have p13 : 0 ≤ (a2 : Int) := of_decide_eq_true (by first | (with_reducible assumption) | assumption);have q13 : (a2 : Int) < ((y182.length : Int) : Int) := of_decide_eq_true (by first | (with_reducible assumption) | assumption);obtain ⟨go13,co13,eo13,gb13,gl13,cl13,HG13⟩ := Kd.R_form HO184.out (by omega);(first | cases eo13 | (injection eo13 with ea_ en_ ec_;(first | subst ea_ | (injection ea_ with ea_;subst ea_));subst ec_;clear en_));have GB13 := aM_ gb13;have GG13 := aM_ HG13;clear gb13 gl13 HG13;obtain ⟨hx13_0,hf13_0⟩ := Kd.R_celln 0 HO184.out (a2 : Int) p13 q13;replace p13 := eq_true p13;replace q13 := eq_true q13;obtain ⟨hy33_,hz33_⟩ := Kd.R_celln 0 HO184.out (a2 : Int) (of_decide_eq_true (by first | (with_reducible assumption) | assumption)) (of_decide_eq_true (by first | (with_reducible assumption) | assumption));have HP33 := Kd.R_putg HO184.out (a2 : Int) t178) | ((with_reducible refine gate_store (t := 3) (p := 37) rfl ?_);(try (rw [drewN_self w32];generalize hq_ : World.drewN w32 _ = w32;have n0 := aM_ (Kd.R_at hq_ HO184.out);have n1 := aM_ (blk_at hq_ BK174.out);have n2 := aM_ (below_at hq_ HB.out);clear hq_ HO184 BK174 HB;have HO184 := n0;have BK174 := n1;have HB := n2;clear n0 n1 n2;(try (obtain ⟨hy33_,hz33_⟩ := Kd.R_celln 0 HO184.out (a2 : Int) (of_decide_eq_true (by first | (with_reducible assumption) | assumption)) (of_decide_eq_true (by first | (with_reducible assumption) | assumption))));(try (have HP33 := Kd.R_putg HO184.out (a2 : Int) t178))));refine store_event (t := 3) (p := 37) (v := ?vo_w34) (w1 := (w32.setCell ⟨go13,(a2 : Int).toNat,none⟩ (.int .i64 t178))) ?hg ?ho ?hn ?hr ?_;(case ho => rfl);(case hg => rfl);(case hn => rfl);(case hr => first | (go_simp;done) | (go_simp;rfl));intro w34 hw;have hg : w32.grownBy w34 (some go13) := (by rw [hw];exact HP33.2);have hp_ : Kd.R (Kd.int .i64) 3 w34 w.heap.size (fun _ => True) (.slice (some ⟨go13,0,none⟩) y182.length co13) y185 := (by rw [hw,Ny185.out];exact HP33.1);clear HP33;have n0 := aM_ (blk_grown (g := gb174) (o := .cells #[.slice (some ad175) l0_0.length c0_0] 24 (0,0)) (by (with_reducible repeat (first | refine bN_ ?_ _ | refine bD_ ?_ | refine bA_ ?_ _));exact BK174.out) hg (Kd.R_ne HO184.out BK174.out (by decide)));have n1 := aM_ (hp_);have n2 := aM_ ((by rw [hw];exact below_set (HB.out) GB13.out : Below w.heap.size w w34));clear BK174;clear HO184;clear HB;have BK174 := n0;have HO184 := n1;have HB := n2;clear n0 n1 n2;clear hg hw hp_;have p191 : 0 ≤ (t178 : Int) := of_decide_eq_true (by first | (with_reducible assumption) | assumption);have q191 : t178 < ((rd_L4 l0_0 a2).length : Int) := of_decide_eq_true (by first | (with_reducible assumption) | assumption);obtain ⟨ad191,A191_1,c191_1,e191,hx191_0,hx191_1,hl191_1,hi191_1⟩ := at_T43 HR175_0.out t178 p191 q191;cases e191;replace hx191_0 := cB_ HB.out hx191_0;replace hx191_1 := cB_ HB.out hx191_1;have HR191_1 := aM_ hi191_1;have HC191_1 := aM_ hl191_1;clear hi191_1 hl191_1;replace p191 := eq_true p191;replace q191 := eq_true q191)))
         go_ret2
         exact ⟨_,fR_,by (with_reducible repeat (first | apply rA_ | apply rN_ | apply rD_));exact HO184.out,gB_ HB.out⟩
        ·rw [if_neg c27] at H
         exact absurd H (by simp)
       ·rw [if_neg c26] at H
        exact absurd H (by simp)
     ·rw [if_neg c12] at H
      exact absurd H (by simp)
    ·rw [if_neg c11] at H
     exact absurd H (by simp)
   ·rw [if_neg c9] at H
    exact absurd H (by simp)
  ·rw [if_neg c7] at H
   exact absurd H (by simp)
 ·rw [if_neg c6] at H
  exact absurd H (by simp)
def spec_Load.f (k : Nat) (l0_0 : List (List (S43))) (l1 : List Int) (a2 : Int) (a3 : Int) (a4 : Bool) : Option (Int × List Int) := (spec_l6Right.f k l0_0 l1 a2).bind fun t193 => (if t193 = true then ((spec_l6Load.f k l0_0 l1 a2 a3 a4).bind fun bt194 => (some (bt194.1,bt194.2))) else ((some (([] : List Int) : List Int)).bind fun y198 => (if y198.length + l1.length < 17592186044416 then (some (0,(y198 ++ l1))) else (none))))
set_option maxHeartbeats 8000000 in
set_option maxRecDepth 100000 in
theorem spec_Load.calls (k : Nat) (A0_0 : Option Addr) (c0_0 : Nat) (l0_0 : List (List (S43))) (A1 : Option Addr) (c1 : Nat) (l1 : List Int) (a2 : Int) (a3 : Int) (a4 : Bool) (r1 : Int) (r2 : List Int) (w : World) (hr0_0 : Kd.C (Kd.slice 43 k43) w A0_0 l0_0.length l0_0) (hc0_0 : l0_0.length ≤ c0_0) (hr1 : Kd.C (Kd.int .i64) w A1 l1.length l1) (hc1 : l1.length ≤ c1) (h : spec_Load.f k l0_0 l1 a2 a3 a4 = some (r1,r2)) :
  Calls Try.prog 22 #[.agg #[.slice A0_0 l0_0.length c0_0],.slice A1 l1.length c1,.int .i64 a2,.int .i64 a3,.bool a4] w fun e w' => ∃ v1_ : Value,e = .returned (.tuple #[.int .i64 r1,v1_]) ∧ Kd.R (Kd.int .i64) 3 w' w.heap.size (fun _ => True) v1_ r2 ∧ Below w.heap.size w w' := by
 have hu24 := Try.underlying24
 have HR0_0 := aM_ hr0_0
 have HC0_0 := aM_ hc0_0
 clear hr0_0 hc0_0
 have HR1 := aM_ hr1
 have HC1 := aM_ hc1
 clear hr1 hc1
 have HB := aM_ (Below.refl w.heap.size w)
 have H : ((spec_l6Right.f k l0_0 l1 a2).bind fun t193 => (if t193 = true then ((spec_l6Load.f k l0_0 l1 a2 a3 a4).bind fun bt194 => (some (bt194.1,bt194.2))) else ((some (([] : List Int) : List Int)).bind fun y198 => (if y198.length + l1.length < 17592186044416 then (some (0,(y198 ++ l1))) else (none))))) = some (r1,r2) := h
 clear h
 replace H := Option.bind_eq_some_iff.mp H
 obtain ⟨t193,A60,H⟩ := H
 replace H : (if t193 = true then ((spec_l6Load.f k l0_0 l1 a2 a3 a4).bind fun bt194 => (some (bt194.1,bt194.2))) else ((some (([] : List Int) : List Int)).bind fun y198 => (if y198.length + l1.length < 17592186044416 then (some (0,(y198 ++ l1))) else (none)))) = some (r1,r2) := H
 have A6 := aM_ A60
 clear A60
 by_cases c7 : t193 = true
 ·subst c7
  have H1 : ((spec_l6Load.f k l0_0 l1 a2 a3 a4).bind fun bt194 => (some (bt194.1,bt194.2))) = some (r1,r2) := by rw [if_pos rfl] at H;exact H
  clear H
  have H := H1
  clear H1
  replace H := Option.bind_eq_some_iff.mp H
  obtain ⟨⟨t194,t195⟩,A80,H⟩ := H
  replace H : (some (t194,t195)) = some (r1,r2) := H
  have A8 := aM_ A80
  clear A80
  simp only [Option.some.injEq,Prod.mk.injEq] at H
  obtain ⟨rfl,rfl⟩ := H
  go_enter Try.func22,Try.ntmps22
  go_wp2_with (first | ((with_reducible refine gate_dst (N := 5) rfl ?_);refine bX_ 5 (cs := #[.slice A0_0 l0_0.length c0_0]) (t := 24) ?_;intro gb192 hg w9 hbox hb;have n0 := aM_ (sT_ HB.out hb);have n1 := aM_ (hbox);have n2 := aM_ (sZ_ hg HB.out);have n3 := aM_ (sZ_ hg HB.out);clear HB;have HB := n0;have BK192 := n1;have GW192 := n2;have GE192 := n3;clear n0 n1 n2 n3;clear hb hbox hg;have hcz10_0 : w9.cell? ⟨gb192,0,none⟩ = some (.slice A0_0 l0_0.length c0_0) := (blk_cell BK192.out 0).trans rfl;have hfz10_0 := blk_frozen BK192.out 0) | ((with_reducible refine gate_callee (f := 61) rfl ?_);refine gL_ (some 17) Try.func61 #[.agg #[.slice A0_0 l0_0.length c0_0],.slice A1 l1.length c1,.int .i64 a2] ?_;(with_reducible refine (spec_l6Right.calls k _ _ l0_0 _ _ l1 a2 true _ ?side1 ?side2 ?side3 ?side4 A6.out).mono ?_);(case side1 => exact cS_ (Kd.C_below HR0_0.out HB.out));(case side2 => exact HC0_0.out);(case side3 => exact cS_ (Kd.C_below HR1.out HB.out));(case side4 => exact HC1.out);rintro e w11 ⟨rfl,hb⟩;refine ⟨_,rfl,?_⟩;have n0 := aM_ (nB_ BK192.out hb);have n1 := aM_ (sT_ HB.out hb);clear BK192;clear HB;have BK192 := n0;have HB := n1;clear n0 n1;have hcz12_0 : w11.cell? ⟨gb192,0,none⟩ = some (.slice A0_0 l0_0.length c0_0) := (blk_cell BK192.out 0).trans rfl;have hfz12_0 := blk_frozen BK192.out 0) | ((with_reducible refine gate_callee (f := 62) rfl ?_);refine gL_ (some 28) Try.func62 #[.agg #[.slice A0_0 l0_0.length c0_0],.slice A1 l1.length c1,.int .i64 a2,.int .i64 a3,.bool a4] ?_;(with_reducible refine (spec_l6Load.calls k _ _ l0_0 _ _ l1 a2 a3 a4 t194 t195 _ ?side1 ?side2 ?side3 ?side4 A8.out).mono ?_);(case side1 => exact cS_ (Kd.C_below HR0_0.out HB.out));(case side2 => exact HC0_0.out);(case side3 => exact cS_ (Kd.C_below HR1.out HB.out));(case side4 => exact HC1.out);rintro e w13 ⟨v196,rfl,ho0,hb⟩;refine ⟨_,rfl,?_⟩;have n0 := aM_ (Kd.R_lower ho0 (below_size (gB_ HB.out)));have n1 := aM_ (nB_ BK192.out hb);have n2 := aM_ (sT_ HB.out hb);clear BK192;clear HB;have HO197 := n0;have BK192 := n1;have HB := n2;clear n0 n1 n2;(try clear ho0)))
  go_ret2
  exact ⟨_,fR_,by (with_reducible repeat (first | apply rA_ | apply rN_ | apply rD_));exact HO197.out,gB_ HB.out⟩
 ·replace c7 := Bool.eq_false_iff.mpr c7
  subst c7
  have H1 : ((some (([] : List Int) : List Int)).bind fun y198 => (if y198.length + l1.length < 17592186044416 then (some (0,(y198 ++ l1))) else (none))) = some (r1,r2) := by rw [if_neg (show ¬ (false = true) by decide)] at H;exact H
  clear H
  have H := H1
  clear H1
  obtain ⟨y198,hy198⟩ : ∃ y_ : List Int,y_ = (([] : List Int)) := ⟨_,rfl⟩
  replace H : (if y198.length + l1.length < 17592186044416 then (some (0,(y198 ++ l1))) else (none)) = some (r1,r2) := by first | (rw [hy198];with_reducible exact H) | (have H2_ := (Option.bind_some _ _).symm.trans H;rw [hy198];with_reducible exact H2_) | (have H2_ := (Option.bind_some _ _).symm.trans H;with_reducible exact H2_) | with_reducible exact H | (rw [hy198];exact H) | exact H
  have Ny198 := aM_ hy198
  clear hy198
  by_cases c14 : y198.length + l1.length < 17592186044416
  ·rw [if_pos c14] at H
   have LMc14 := aM_ c14
   clear c14
   obtain ⟨y201,hy201⟩ : ∃ y_ : List Int,y_ = (y198 ++ l1) := ⟨_,rfl⟩
   replace H : (some (0,y201)) = some (r1,r2) := by first | (rw [hy201];with_reducible exact H) | (have H2_ := (Option.bind_some _ _).symm.trans H;rw [hy201];with_reducible exact H2_) | (have H2_ := (Option.bind_some _ _).symm.trans H;with_reducible exact H2_) | with_reducible exact H | (rw [hy201];exact H) | exact H
   have Ny201 := aM_ hy201
   clear hy201
   simp only [Option.some.injEq,Prod.mk.injEq] at H
   obtain ⟨rfl,rfl⟩ := H
   go_enter Try.func22,Try.ntmps22
   go_wp2_with (first | ((with_reducible refine gate_dst (N := 5) rfl ?_);refine bX_ 5 (cs := #[.slice A0_0 l0_0.length c0_0]) (t := 24) ?_;intro gb192 hg w15 hbox hb;have n0 := aM_ (sT_ HB.out hb);have n1 := aM_ (hbox);have n2 := aM_ (sZ_ hg HB.out);have n3 := aM_ (sZ_ hg HB.out);clear HB;have HB := n0;have BK192 := n1;have GW192 := n2;have GE192 := n3;clear n0 n1 n2 n3;clear hb hbox hg;have hcz16_0 : w15.cell? ⟨gb192,0,none⟩ = some (.slice A0_0 l0_0.length c0_0) := (blk_cell BK192.out 0).trans rfl;have hfz16_0 := blk_frozen BK192.out 0) | ((with_reducible refine gate_callee (f := 61) rfl ?_);refine gL_ (some 17) Try.func61 #[.agg #[.slice A0_0 l0_0.length c0_0],.slice A1 l1.length c1,.int .i64 a2] ?_;(with_reducible refine (spec_l6Right.calls k _ _ l0_0 _ _ l1 a2 false _ ?side1 ?side2 ?side3 ?side4 A6.out).mono ?_);(case side1 => exact cS_ (Kd.C_below HR0_0.out HB.out));(case side2 => exact HC0_0.out);(case side3 => exact cS_ (Kd.C_below HR1.out HB.out));(case side4 => exact HC1.out);rintro e w17 ⟨rfl,hb⟩;refine ⟨_,rfl,?_⟩;have n0 := aM_ (nB_ BK192.out hb);have n1 := aM_ (sT_ HB.out hb);clear BK192;clear HB;have BK192 := n0;have HB := n1;clear n0 n1) | ((with_reducible refine gate_dst (N := 19) rfl ?_);refine Kd.R_lit (Kd.int .i64) _ 3 ?hg (N := 19) ?hd (xs := ([] : List Int)) (inner := []) (ok := fun _ => True) (okp := fun _ => True) ?hr ?hp (fun _ hk => hk) trivial (Below.refl _ _) (Nat.le_refl _) (by simp) ?_;(case hd => rfl);(case hg => rfl);(case hr => first | (go_simp;done) | (go_simp;rfl));(case hp => exact (Reps.none _ _));intro v199 w18 ho19 hb hg_ hnew_;clear hg_ hnew_;(first | rw [← Ny198.out] at ho19 | (simp only [Int.reduceToNat] at ho19;rw [← Ny198.out] at ho19));have n0 := aM_ (Kd.R_lower ho19 (below_size (gB_ HB.out)));have n1 := aM_ (nB_ BK192.out hb);have n2 := aM_ (sT_ HB.out hb);clear BK192;clear HB;have HO200 := n0;have BK192 := n1;have HB := n2;clear n0 n1 n2;clear hb ho19) | ((with_reducible refine gate_builtin (b := .append) (xs := #[.tmp 19,.tmp 20]) rfl ?_);at_builtin;refine Kd.R_append_rows (Kd.int .i64) (w0 := w) w.heap.size rfl (.tmp 19) (.tmp 20) 31 3 (.int .i64 0) 8 rfl Try.underlying31 info3 rfl (by decide) (by omega) v199 y198 l1 _ _ _ (fun _ => True) (fun _ => False) rfl rfl ?aO ?aR (fun _ _ h => h) (fun _ h => h.elim) ?aF ?aB ?aS ?aL ?_;(case aR => repeat (first | exact (Kd.C_below HR1.out HB.out) | (with_reducible refine Kd.C_alloc ?_ _) | (with_reducible refine Kd.C_drewN ?_ _) | (with_reducible refine Kd.C_drew ?_)));(case aB => exact (gB_ HB.out));(case aF => exact (fun _ _ => trivial));(case aO => exact (by (with_reducible repeat (first | apply rA_ | apply rN_ | apply rD_));exact HO200.out));(case aS => exact (below_size (gB_ HB.out)));(case aL => have := LMc14.out;omega);intro v202 w20 ho hb hg hat;rw [← Ny201.out] at ho;have n0 := aM_ (blk_grown (g := gb192) (o := .cells #[.slice A0_0 l0_0.length c0_0] 24 (0,0)) (by (with_reducible repeat (first | refine bN_ ?_ _ | refine bD_ ?_ | refine bA_ ?_ _));exact BK192.out) hg (Kd.R_ne HO200.out BK192.out (by decide)));have n1 := aM_ (hb);have n2 := aM_ (ho);clear BK192;clear HB;clear HO200;have BK192 := n0;have HB := n1;have HO203 := n2;clear n0 n1 n2;clear ho hb hg hat))
   go_ret2
   exact ⟨_,fR_,by (with_reducible repeat (first | apply rA_ | apply rN_ | apply rD_));exact HO203.out,gB_ HB.out⟩
  ·rw [if_neg c14] at H
   exact absurd H (by simp)
def impl_Knows.l0 : Nat → List Int → List Int → Int → Int → Option (Bool)
  | 0,_,_,_,_ => none
  | k + 1,x0,x12,x13,x14 => if x14 < x13 then (if 0 ≤ x14 then (if x14 < (x12.length : Int) then (if x14 < (x0.length : Int) then (if (rd x0 x14) < (rd x12 x14) then (some false) else (impl_Knows.l0 k x0 x12 x13 (wrap64 (x14 + 1)))) else (none)) else (none)) else (none)) else (some true)
def impl_Knows.f (k : Nat) (l0 : List Int) (l1 : List Int) : Option (Bool) := if (l0.length : Int) = (l1.length : Int) then (impl_Knows.l0 k l0 l1 (l1.length : Int) 0) else (some false)
set_option maxHeartbeats 8000000 in
set_option maxRecDepth 100000 in
theorem impl_Knows.calls (k : Nat) (A0 : Option Addr) (c0 : Nat) (l0 : List Int) (A1 : Option Addr) (c1 : Nat) (l1 : List Int) (r : Bool) (w : World) (hr0 : Kd.C (Kd.int .i64) w A0 l0.length l0) (hc0 : l0.length ≤ c0) (hr1 : Kd.C (Kd.int .i64) w A1 l1.length l1) (hc1 : l1.length ≤ c1) (h : impl_Knows.f k l0 l1 = some r) :
  Calls Try.prog 23 #[.slice A0 l0.length c0,.slice A1 l1.length c1] w fun e w' => e = .returned (.bool r) ∧ Drawn0 w w' := by
 have HR0 := aM_ hr0
 have HC0 := aM_ hc0
 clear hr0 hc0
 have HR1 := aM_ hr1
 have HC1 := aM_ hc1
 clear hr1 hc1
 have H : (if (l0.length : Int) = (l1.length : Int) then (impl_Knows.l0 k l0 l1 (l1.length : Int) 0) else (some false)) = some r := h
 clear h
 by_cases c3 : (l0.length : Int) = (l1.length : Int)
 ·rw [if_pos c3] at H
  have c3b0 : ((l0.length : Int) == (l1.length : Int)) = true := beq_iff_eq.mpr c3
  have c3b1 : ((l0.length : Int) != (l1.length : Int)) = false := bne_eq_false_iff_eq.mpr c3
  have c3b2 : (l0.length == l1.length) = true := by first | simpa using c3 | (simp at c3 ⊢;omega)
  clear c3
  have H' := aM_ H
  clear H
  go_enter Try.func23,Try.ntmps23
  go_wp2
  go_loopg [14] k (fun kq v14 w' => ∃ (x14_1 : Int),v14 = .int .i64 x14_1 ∧ Aside0 (impl_Knows.l0 kq l0 l1 (l1.length : Int) x14_1 = some r) ∧ Aside0 (kq ≤ k) ∧ Drawn0 w w')
  case atStart => exact ⟨(0),(by first | rfl | (simp;done) | (simp [*];done)),H',⟨Nat.le_refl _⟩,by repeat (first | exact Drawn0.refl _ | apply Drawn0.step)⟩
  case round =>
   clear H'
   try clear c1
   try clear c2
   try clear p2
   try clear c3
   try clear c3b0
   try clear c3b1
   try clear c3b2
   obtain ⟨x14_1,rfl,HA,HK1,⟨m1,rfl⟩⟩ := hrel
   cases gk with
   | zero => exact absurd HA.out (by simp [impl_Knows.l0])
   | succ k1 =>
    have H := HA.out
    clear HA
    simp only [impl_Knows.l0] at H
    by_cases c4 : x14_1 < (l1.length : Int)
    ·rw [if_pos c4] at H
     have c4b0 : decide (x14_1 < (l1.length : Int)) = true := decide_eq_true c4
     clear c4
     by_cases c5 : 0 ≤ x14_1
     ·rw [if_pos c5] at H
      have c5b0 : decide (0 ≤ x14_1) = true := decide_eq_true c5
      clear c5
      by_cases c6 : x14_1 < (l1.length : Int)
      ·rw [if_pos c6] at H
       have c6b0 : decide (x14_1 < (l1.length : Int)) = true := decide_eq_true c6
       clear c6
       by_cases c7 : x14_1 < (l0.length : Int)
       ·rw [if_pos c7] at H
        have c7b0 : decide (x14_1 < (l0.length : Int)) = true := decide_eq_true c7
        clear c7
        by_cases c8 : (rd l0 x14_1) < (rd l1 x14_1)
        ·rw [if_pos c8] at H
         have c8b0 : decide ((rd l0 x14_1) < (rd l1 x14_1)) = true := decide_eq_true c8
         clear c8
         obtain rfl := Option.some.inj H
         have p204 : 0 ≤ (x14_1 : Int) := of_decide_eq_true (by first | (with_reducible assumption) | assumption)
         have q204 : x14_1 < (l1.length : Int) := of_decide_eq_true (by first | (with_reducible assumption) | assumption)
         obtain ⟨ad204,e204,hx204_0⟩ := Kd.at_int HR1.out x14_1 p204 q204
         cases e204
         replace p204 := eq_true p204
         replace q204 := eq_true q204
         have p205 : 0 ≤ (x14_1 : Int) := of_decide_eq_true (by first | (with_reducible assumption) | assumption)
         have q205 : x14_1 < (l0.length : Int) := of_decide_eq_true (by first | (with_reducible assumption) | assumption)
         obtain ⟨ad205,e205,hx205_0⟩ := Kd.at_int HR0.out x14_1 p205 q205
         cases e205
         replace p205 := eq_true p205
         replace q205 := eq_true q205
         go_wp2
         go_ret
         exact ⟨by first | rfl | (simp;done) | (simp [*];done),by repeat (first | exact Drawn0.refl _ | apply Drawn0.step)⟩
        ·rw [if_neg c8] at H
         have c8b0 : decide ((rd l0 x14_1) < (rd l1 x14_1)) = false := decide_eq_false c8
         clear c8
         have H' := aM_ H
         clear H
         have p204 : 0 ≤ (x14_1 : Int) := of_decide_eq_true (by first | (with_reducible assumption) | assumption)
         have q204 : x14_1 < (l1.length : Int) := of_decide_eq_true (by first | (with_reducible assumption) | assumption)
         obtain ⟨ad204,e204,hx204_0⟩ := Kd.at_int HR1.out x14_1 p204 q204
         cases e204
         replace p204 := eq_true p204
         replace q204 := eq_true q204
         have p205 : 0 ≤ (x14_1 : Int) := of_decide_eq_true (by first | (with_reducible assumption) | assumption)
         have q205 : x14_1 < (l0.length : Int) := of_decide_eq_true (by first | (with_reducible assumption) | assumption)
         obtain ⟨ad205,e205,hx205_0⟩ := Kd.at_int HR0.out x14_1 p205 q205
         cases e205
         replace p205 := eq_true p205
         replace q205 := eq_true q205
         go_wp2
         go_roundg k1
         case measure => have := HK1.out;omega
         case rel => exact ⟨(wrap64 (x14_1 + 1)),(by first | rfl | (simp;done) | (simp [*];done)),H',⟨by have := HK1.out;omega⟩,by repeat (first | exact Drawn0.refl _ | apply Drawn0.step)⟩
       ·rw [if_neg c7] at H
        exact absurd H (by simp)
      ·rw [if_neg c6] at H
       exact absurd H (by simp)
     ·rw [if_neg c5] at H
      exact absurd H (by simp)
    ·rw [if_neg c4] at H
     have c4b0 : decide (x14_1 < (l1.length : Int)) = false := decide_eq_false c4
     clear c4
     obtain rfl := Option.some.inj H
     go_wp2
     go_ret
     exact ⟨by first | rfl | (simp;done) | (simp [*];done),by repeat (first | exact Drawn0.refl _ | apply Drawn0.step)⟩
 ·rw [if_neg c3] at H
  have c3b0 : ((l0.length : Int) == (l1.length : Int)) = false := beq_eq_false_iff_ne.mpr c3
  have c3b1 : ((l0.length : Int) != (l1.length : Int)) = true := bne_iff_ne.mpr c3
  have c3b2 : (l0.length == l1.length) = false := by first | simpa using c3 | (simp at c3 ⊢;omega)
  obtain rfl := Option.some.inj H
  go_enter Try.func23,Try.ntmps23
  go_wp2
  go_ret
  exact ⟨by first | rfl | (simp;done) | (simp [*];done),by repeat (first | exact Drawn0.refl _ | apply Drawn0.step)⟩
def IsS119 (w0 W : World) (g : Nat) (f0 : List Int) (f1 : Int) (f2 : Int) : Prop := ∃ A0 c0,W.heap[g]? = some (.cells #[.slice A0 f0.length c0,.int .i64 f1,.int .i64 f2] 119 (0,0)) ∧ w0.heap.size ≤ g ∧ Kd.C (Kd.int .u8) w0 A0 f0.length f0
theorem IsS119.grown {w0 W : World} {g : Nat} {f0 : List Int} {f1 : Int} {f2 : Int} {W1 : World} {row : Option Nat} (h : IsS119 w0 W g f0 f1 f2) (hw : W.grownBy W1 row) (hne : some g ≠ row) : IsS119 w0 W1 g f0 f1 f2 := by
 obtain ⟨A0,c0,hb,hg,hr0⟩ := h
 exact ⟨A0,c0,blk_grown hb hw hne,hg,hr0⟩
theorem IsS119.fresh {w0 W : World} {g : Nat} {f0 : List Int} {f1 : Int} {f2 : Int} (h : IsS119 w0 W g f0 f1 f2) : ∀ k,W.heap.size ≤ k → k ≠ g := by
 obtain ⟨A0,c0,hb,hg,hr0⟩ := h
 exact Kd.freshB hb
theorem IsS119.kept {w0 W : World} {g : Nat} {f0 : List Int} {f1 : Int} {f2 : Int} {W1 : World} {S : Nat → Prop} (h : IsS119 w0 W g f0 f1 f2) (hk : Kept W W1 S) (hne : ¬ S g) : IsS119 w0 W1 g f0 f1 f2 := by
 obtain ⟨A0,c0,hb,hg,hr0⟩ := h
 exact ⟨A0,c0,blk_kept hb hk hne,hg,hr0⟩
theorem IsS119.below {w0 W : World} {g : Nat} {f0 : List Int} {f1 : Int} {f2 : Int} {W1 : World} (h : IsS119 w0 W g f0 f1 f2) (hw : Below W.heap.size W W1) : IsS119 w0 W1 g f0 f1 f2 := h.grown (grown_of_below hw none) (by simp)
theorem IsS119.alloc {w0 W : World} {g : Nat} {f0 : List Int} {f1 : Int} {f2 : Int} (h : IsS119 w0 W g f0 f1 f2) (o : Obj) : IsS119 w0 (W.alloc o) g f0 f1 f2 := h.below (below_alloc (Below.refl _ _) o)
theorem IsS119.drewN {w0 W : World} {g : Nat} {f0 : List Int} {f1 : Int} {f2 : Int} (h : IsS119 w0 W g f0 f1 f2) (m : Nat) : IsS119 w0 (W.drewN m) g f0 f1 f2 := h
theorem IsS119.drew {w0 W : World} {g : Nat} {f0 : List Int} {f1 : Int} {f2 : Int} (h : IsS119 w0 W g f0 f1 f2) : IsS119 w0 W.drew g f0 f1 f2 := h
theorem IsS119.at_ {w0 W : World} {g : Nat} {f0 : List Int} {f1 : Int} {f2 : Int} {w' : World} {m : Nat} (hq : W.drewN m = w') (h : IsS119 w0 W g f0 f1 f2) : IsS119 w0 w' g f0 f1 f2 := by subst hq;exact IsS119.drewN h m
theorem IsS119.apart {w0 W : World} {g : Nat} {f0 : List Int} {f1 : Int} {f2 : Int} {α : Type} {d : Kd α} {e : Nat} {base : Nat} {ok : Nat → Prop} {v : Value} {xs : List α} (h : IsS119 w0 W g f0 f1 f2) (ho : d.R e W base ok v xs) (ht : ∀ q,q ∈ e :: d.E → q ≠ 119) : d.R e W base (fun k => ok k ∧ k ≠ g) v xs := by
 obtain ⟨A0,c0,hb,hg,hr0⟩ := h
 exact Kd.R_types ho hb ht
theorem IsS119.own_ne {w0 W : World} {g : Nat} {f0 : List Int} {f1 : Int} {f2 : Int} {α : Type} {d : Kd α} {e : Nat} {base : Nat} {ok : Nat → Prop} {v : Value} {xs : List α} (h : IsS119 w0 W g f0 f1 f2) (ho : d.R e W base ok v xs) (ht : e ≠ 119) : some g ≠ v.ownBlock := by
 obtain ⟨A0,c0,hb,hg,hr0⟩ := h
 exact Kd.R_ne ho hb ht
theorem IsS119.apartQ {w0 W : World} {g : Nat} {f0 : List Int} {f1 : Int} {f2 : Int} {α : Type} {d : Kd α} {e : Nat} {base : Nat} {ok : Nat → Prop} {v : Value} {xs : List α} (h : IsS119 w0 W g f0 f1 f2) (ho : d.Q e W base ok v xs) (ht : ∀ q,q ∈ e :: d.E → q ≠ 119) : d.Q e W base (fun k => ok k ∧ k ≠ g) v xs := by
 obtain ⟨A0,c0,hb,hg,hr0⟩ := h
 exact Kd.Q_types ho hb ht
theorem IsS119.apartS {w0 W : World} {g : Nat} {f0 : List Int} {f1 : Int} {f2 : Int} {α : Type} {d : Kd α} {e : Nat} {base : Nat} {ok : Nat → Prop} {v : Value} {xs : List α} (h : IsS119 w0 W g f0 f1 f2) (ho : d.S e W base ok v xs) (ht : ∀ q,q ∈ e :: d.E → q ≠ 119) : d.S e W base (fun k => ok k ∧ k ≠ g) v xs := by
 obtain ⟨A0,c0,hb,hg,hr0⟩ := h
 exact Kd.S_types ho hb ht
theorem IsS119.own_neS {w0 W : World} {g : Nat} {f0 : List Int} {f1 : Int} {f2 : Int} {α : Type} {d : Kd α} {e : Nat} {base : Nat} {ok : Nat → Prop} {v : Value} {xs : List α} (h : IsS119 w0 W g f0 f1 f2) (ho : d.S e W base ok v xs) (ht : e ≠ 119) : some g ≠ v.ownBlock := by
 obtain ⟨A0,c0,hb,hg,hr0⟩ := h
 exact Kd.S_ne ho hb ht
theorem IsS119.lt {w0 W : World} {g : Nat} {f0 : List Int} {f1 : Int} {f2 : Int} (h : IsS119 w0 W g f0 f1 f2) : g < W.heap.size := by
 obtain ⟨A0,c0,hb,hg,hr0⟩ := h
 exact blk_lt hb
theorem IsS119.ge {w0 W : World} {g : Nat} {f0 : List Int} {f1 : Int} {f2 : Int} (h : IsS119 w0 W g f0 f1 f2) : w0.heap.size ≤ g := by
 obtain ⟨A0,c0,hb,hg,hr0⟩ := h
 exact hg
theorem IsS119.ne_blk {w0 W : World} {g : Nat} {f0 : List Int} {f1 : Int} {f2 : Int} {a : Nat} {cs : Array Value} {t : TypeId} {fr : Nat × Nat} (h : IsS119 w0 W g f0 f1 f2) (hb2 : W.heap[a]? = some (.cells cs t fr)) (ht : t ≠ 119) : g ≠ a := by
 obtain ⟨A0,c0,hb,hg,hr0⟩ := h
 rintro rfl
 rw [hb] at hb2
 injection hb2 with hb2
 injection hb2 with _ ht2
 exact ht ht2.symm
theorem IsS119.far {w0 W : World} {g : Nat} {f0 : List Int} {f1 : Int} {f2 : Int} {p : Addr} (h : IsS119 w0 W g f0 f1 f2) (hne : g ≠ p.block) (u : Value) : IsS119 w0 (W.setCell p u) g f0 f1 f2 := by
 obtain ⟨A0,c0,hb,hg,hr0⟩ := h
 exact ⟨A0,c0,blk_far hb hne u,hg,hr0⟩
theorem cellS119_0 {W : World} {g : Nat} {A0 : Option Addr} {c0 : Nat} {f0 : List Int} {f1 : Int} {f2 : Int} (h : W.heap[g]? = some (.cells #[.slice A0 f0.length c0,.int .i64 f1,.int .i64 f2] 119 (0,0))) : W.cell? ⟨g,0,none⟩ = some (.slice A0 f0.length c0) := (blk_cell h 0).trans rfl
theorem cellS119_1 {W : World} {g : Nat} {A0 : Option Addr} {c0 : Nat} {f0 : List Int} {f1 : Int} {f2 : Int} (h : W.heap[g]? = some (.cells #[.slice A0 f0.length c0,.int .i64 f1,.int .i64 f2] 119 (0,0))) : W.cell? ⟨g,1,none⟩ = some (.int .i64 f1) := (blk_cell h 1).trans rfl
theorem IsS119.set_1 {w0 W : World} {g : Nat} {f0 : List Int} {f1 : Int} {f2 : Int} (h : IsS119 w0 W g f0 f1 f2) (x : Int) : IsS119 w0 (W.setCell ⟨g,1,none⟩ (.int .i64 x)) g f0 x f2 := by
 obtain ⟨A0,c0,hb,hg,hr0⟩ := h
 exact ⟨A0,c0,by simpa using blk_set hb 1 (.int .i64 x),hg,hr0⟩
theorem cellS119_2 {W : World} {g : Nat} {A0 : Option Addr} {c0 : Nat} {f0 : List Int} {f1 : Int} {f2 : Int} (h : W.heap[g]? = some (.cells #[.slice A0 f0.length c0,.int .i64 f1,.int .i64 f2] 119 (0,0))) : W.cell? ⟨g,2,none⟩ = some (.int .i64 f2) := (blk_cell h 2).trans rfl
theorem IsS119.set_2 {w0 W : World} {g : Nat} {f0 : List Int} {f1 : Int} {f2 : Int} (h : IsS119 w0 W g f0 f1 f2) (x : Int) : IsS119 w0 (W.setCell ⟨g,2,none⟩ (.int .i64 x)) g f0 f1 x := by
 obtain ⟨A0,c0,hb,hg,hr0⟩ := h
 exact ⟨A0,c0,by simpa using blk_set hb 2 (.int .i64 x),hg,hr0⟩
theorem gI119_ {w0 W W1 : World} {g : Nat} {f0 : List Int} {f1 : Int} {f2 : Int} {f0' : List Int} {f1' : Int} {f2' : Int} (h : IsS119 w0 W g f0 f1 f2) (hr : IsS119 w0 W g f0 f1 f2 → IsS119 w0 W1 g f0' f1' f2' := by (intro h_;repeat (first | (with_reducible first | exact h_ | apply IsS119.alloc | apply IsS119.drewN | apply IsS119.drew | apply IsS119.set_1 | apply IsS119.set_2 | refine IsS119.far ?_ (Aside0.out (by assumption)) _) | exact h_))) : IsS119 w0 W1 g f0' f1' f2' := hr h
def spec_l1New.l0 : Nat → List Int → Int → Int → Option (List Int × Int × Int)
  | 0,_,_,_ => none
  | k + 1,x0,x3,x4 => if x4 < (x0.length : Int) then (if x4 < 4000 then (if 0 ≤ x4 then (spec_l1New.l0 k x0 (Go.bits .and .i64 (wrap64 ((wrap64 ((wrap64 (x3 * 131)) + (wrap64 (rd x0 x4)))) + 7)) 1073741823) (wrap64 (x4 + 1))) else (none)) else (some (x0,0,x3))) else (some (x0,0,x3))
def spec_l1New.f (k : Nat) (l0 : List Int) : Option (List Int × Int × Int) := spec_l1New.l0 k l0 (wrap64 (18813 + (l0.length : Int))) 0
set_option maxHeartbeats 8000000 in
set_option maxRecDepth 100000 in
theorem spec_l1New.calls (k : Nat) (A0 : Option Addr) (c0 : Nat) (l0 : List Int) (r1 : List Int) (r2 : Int) (r3 : Int) (w0 w : World) (hB : Below w0.heap.size w0 w) (hr0 : Kd.C (Kd.int .u8) w0 A0 l0.length l0) (hc0 : l0.length ≤ c0) (h : spec_l1New.f k l0 = some (r1,r2,r3)) :
  Calls Try.prog 63 #[.slice A0 l0.length c0] w fun e w' => ∃ g_ : Nat,e = .returned (.pointer (some ⟨g_,0,none⟩)) ∧ IsS119 w0 w' g_ r1 r2 r3 ∧ Below w0.heap.size w0 w' ∧ Below w.heap.size w w' := by
 have hu119 := Try.underlying119
 have HR0 := aM_ hr0
 have HC0 := aM_ hc0
 clear hr0 hc0
 have HBW := aM_ (Below.refl w.heap.size w)
 have HW0 := aM_ hB.size
 have HB := aM_ hB
 clear hB
 have H : (spec_l1New.l0 k l0 (wrap64 (18813 + (l0.length : Int))) 0) = some (r1,r2,r3) := h
 clear h
 have H' := aM_ H
 clear H
 go_enter Try.func63,Try.ntmps63
 go_wp2
 go_loopg [3,4] k (fun kq v3 v4 w' => ∃ (x3_1 : Int) (x4_1 : Int),v3 = .int .i64 x3_1 ∧ v4 = .int .i64 x4_1 ∧ Aside0 (spec_l1New.l0 kq l0 x3_1 x4_1 = some (r1,r2,r3)) ∧ Aside0 (kq ≤ k) ∧ Aside0 (Below w0.heap.size w0 w') ∧ Aside0 (Below w.heap.size w w'))
 case atStart => exact ⟨(wrap64 (18813 + (l0.length : Int))),(0),(by first | rfl | (simp;done) | (simp [*];done)),(by first | rfl | (simp;done) | (simp [*];done)),H',⟨Nat.le_refl _⟩,⟨gW_ HB.out⟩,⟨gB_ HBW.out⟩⟩
 case round =>
  clear H'
  obtain ⟨x3_1,x4_1,rfl,rfl,HA,HK1,HB,HBW⟩ := hrel
  cases gk with
  | zero => exact absurd HA.out (by simp [spec_l1New.l0])
  | succ k1 =>
   have H := HA.out
   clear HA
   simp only [spec_l1New.l0] at H
   by_cases c2 : x4_1 < (l0.length : Int)
   ·rw [if_pos c2] at H
    have c2b0 : decide (x4_1 < (l0.length : Int)) = true := decide_eq_true c2
    clear c2
    by_cases c3 : x4_1 < 4000
    ·rw [if_pos c3] at H
     have c3b0 : decide (x4_1 < 4000) = true := decide_eq_true c3
     clear c3
     by_cases c4 : 0 ≤ x4_1
     ·rw [if_pos c4] at H
      have c4b0 : decide (0 ≤ x4_1) = true := decide_eq_true c4
      clear c4
      have H' := aM_ H
      clear H
      have p206 : 0 ≤ (x4_1 : Int) := of_decide_eq_true (by first | (with_reducible assumption) | assumption)
      have q206 : x4_1 < (l0.length : Int) := of_decide_eq_true (by first | (with_reducible assumption) | assumption)
      obtain ⟨ad206,e206,hx206_0⟩ := Kd.at_int HR0.out x4_1 p206 q206
      cases e206
      replace hx206_0 := pw_cell_below HB.out hx206_0
      replace p206 := eq_true p206
      replace q206 := eq_true q206
      go_wp2
      go_roundg k1
      case measure => have := HK1.out;omega
      case rel => exact ⟨(Go.bits .and .i64 (wrap64 ((wrap64 ((wrap64 (x3_1 * 131)) + (wrap64 (rd l0 x4_1)))) + 7)) 1073741823),(wrap64 (x4_1 + 1)),(by first | rfl | (simp;done) | (simp [*];done)),(by first | rfl | (simp;done) | (simp [*];done)),H',⟨by have := HK1.out;omega⟩,⟨gW_ HB.out⟩,⟨gB_ HBW.out⟩⟩
     ·rw [if_neg c4] at H
      exact absurd H (by simp)
    ·rw [if_neg c3] at H
     have c3b0 : decide (x4_1 < 4000) = false := decide_eq_false c3
     clear c3
     simp only [Option.some.injEq,Prod.mk.injEq] at H
     obtain ⟨rfl,rfl,rfl⟩ := H
     go_wp2_with (first | ((with_reducible refine gate_dst (N := 31) rfl ?_);refine bX_ 31 (cs := #[.slice A0 l0.length c0,.int .i64 0,.int .i64 x3_1]) (t := 119) ?_;intro gb207 hg w5 hbox hb;have n0 := aM_ (below_step HBW.out hb);have n1 := aM_ (sT_ HB.out hb);have n2 := aM_ (hbox);have n3 := aM_ ((by rw [hg];exact (below_size (gB_ HBW.out)) : w.heap.size ≤ gb207));have n4 := aM_ ((Nat.le_trans HW0.out (by rw [hg];exact (below_size (gB_ HBW.out)) : w.heap.size ≤ gb207) : w0.heap.size ≤ gb207));clear HBW;clear HB;have HBW := n0;have HB := n1;have BK207 := n2;have GW207 := n3;have GE207 := n4;clear n0 n1 n2 n3 n4;clear hb hbox hg))
     go_ret
     exact ⟨_,rfl,(show IsS119 w0 _ gb207 l0 0 x3_1 from ⟨_,_,by (with_reducible repeat (first | refine bN_ ?_ _ | refine bD_ ?_ | refine bA_ ?_ _));exact BK207.out,GE207.out,HR0.out⟩),gB_ HB.out,gB_ HBW.out⟩
   ·rw [if_neg c2] at H
    have c2b0 : decide (x4_1 < (l0.length : Int)) = false := decide_eq_false c2
    clear c2
    simp only [Option.some.injEq,Prod.mk.injEq] at H
    obtain ⟨rfl,rfl,rfl⟩ := H
    go_wp2_with (first | ((with_reducible refine gate_dst (N := 31) rfl ?_);refine bX_ 31 (cs := #[.slice A0 l0.length c0,.int .i64 0,.int .i64 x3_1]) (t := 119) ?_;intro gb208 hg w6 hbox hb;have n0 := aM_ (below_step HBW.out hb);have n1 := aM_ (sT_ HB.out hb);have n2 := aM_ (hbox);have n3 := aM_ ((by rw [hg];exact (below_size (gB_ HBW.out)) : w.heap.size ≤ gb208));have n4 := aM_ ((Nat.le_trans HW0.out (by rw [hg];exact (below_size (gB_ HBW.out)) : w.heap.size ≤ gb208) : w0.heap.size ≤ gb208));clear HBW;clear HB;have HBW := n0;have HB := n1;have BK208 := n2;have GW208 := n3;have GE208 := n4;clear n0 n1 n2 n3 n4;clear hb hbox hg))
    go_ret
    exact ⟨_,rfl,(show IsS119 w0 _ gb208 l0 0 x3_1 from ⟨_,_,by (with_reducible repeat (first | refine bN_ ?_ _ | refine bD_ ?_ | refine bA_ ?_ _));exact BK208.out,GE208.out,HR0.out⟩),gB_ HB.out,gB_ HBW.out⟩
def spec_l1Byte.f (s0_0 : List Int) (s0_1 : Int) (s0_2 : Int) : Option (Int × Int × Int) := if s0_1 < (s0_0.length : Int) then (if 0 ≤ s0_1 then (some (Go.bits .and .i64 (wrap64 ((Go.bits .and .i64 (Go.bits .xor .i64 ((wrap64 ((wrap64 (s0_2 * 6364136223846793005)) + 1442695040888963407)) / 8589934592) ((wrap64 ((wrap64 (s0_2 * 6364136223846793005)) + 1442695040888963407)) / 35184372088832)) 255) + (wrap64 (rd s0_0 s0_1)))) 255,wrap64 (s0_1 + 1),wrap64 ((wrap64 (s0_2 * 6364136223846793005)) + 1442695040888963407))) else (none)) else (some (Go.bits .and .i64 (Go.bits .xor .i64 ((wrap64 ((wrap64 (s0_2 * 6364136223846793005)) + 1442695040888963407)) / 8589934592) ((wrap64 ((wrap64 (s0_2 * 6364136223846793005)) + 1442695040888963407)) / 35184372088832)) 255,s0_1,wrap64 ((wrap64 (s0_2 * 6364136223846793005)) + 1442695040888963407)))
set_option maxHeartbeats 8000000 in
set_option maxRecDepth 100000 in
theorem spec_l1Byte.calls (g : Nat) (s0_0 : List Int) (s0_1 : Int) (s0_2 : Int) (r1 : Int) (r2 : Int) (r3 : Int) (w0 w : World) (hI : IsS119 w0 w g s0_0 s0_1 s0_2) (hB : Below w0.heap.size w0 w) (h : spec_l1Byte.f s0_0 s0_1 s0_2 = some (r1,r2,r3)) :
  Calls Try.prog 107 #[.pointer (some ⟨g,0,none⟩)] w fun e w' => e = .returned (.int .i64 r1) ∧ IsS119 w0 w' g s0_0 r2 r3 ∧ Below w0.heap.size w0 w' ∧ KeepBut w w' g none := by
 have HI0 := aM_ hI
 have HK := aM_ (KeepBut.refl w g none)
 have HL := aM_ hB.size
 clear hI
 have HW0 := aM_ hB.size
 have HB := aM_ hB
 clear hB
 have H : (if s0_1 < (s0_0.length : Int) then (if 0 ≤ s0_1 then (some (Go.bits .and .i64 (wrap64 ((Go.bits .and .i64 (Go.bits .xor .i64 ((wrap64 ((wrap64 (s0_2 * 6364136223846793005)) + 1442695040888963407)) / 8589934592) ((wrap64 ((wrap64 (s0_2 * 6364136223846793005)) + 1442695040888963407)) / 35184372088832)) 255) + (wrap64 (rd s0_0 s0_1)))) 255,wrap64 (s0_1 + 1),wrap64 ((wrap64 (s0_2 * 6364136223846793005)) + 1442695040888963407))) else (none)) else (some (Go.bits .and .i64 (Go.bits .xor .i64 ((wrap64 ((wrap64 (s0_2 * 6364136223846793005)) + 1442695040888963407)) / 8589934592) ((wrap64 ((wrap64 (s0_2 * 6364136223846793005)) + 1442695040888963407)) / 35184372088832)) 255,s0_1,wrap64 ((wrap64 (s0_2 * 6364136223846793005)) + 1442695040888963407)))) = some (r1,r2,r3) := h
 clear h
 by_cases c2 : s0_1 < (s0_0.length : Int)
 ·rw [if_pos c2] at H
  have c2b0 : decide (s0_1 < (s0_0.length : Int)) = true := decide_eq_true c2
  clear c2
  by_cases c3 : 0 ≤ s0_1
  ·rw [if_pos c3] at H
   have c3b0 : decide (0 ≤ s0_1) = true := decide_eq_true c3
   clear c3
   simp only [Option.some.injEq,Prod.mk.injEq] at H
   obtain ⟨rfl,rfl,rfl⟩ := H
   obtain ⟨ASz4_0,cSz4_0,HGz4,hgz4,HSz4_0⟩ := HI0.out
   have hcz4_0 := cellS119_0 HGz4
   have hcz4_1 := cellS119_1 HGz4
   have hcz4_2 := cellS119_2 HGz4
   have hfz4_1 := blk_frozen HGz4 1
   have hfz4_2 := blk_frozen HGz4 2
   clear HGz4 hgz4
   have p209 : 0 ≤ (s0_1 : Int) := of_decide_eq_true (by first | (with_reducible assumption) | assumption)
   have q209 : s0_1 < (s0_0.length : Int) := of_decide_eq_true (by first | (with_reducible assumption) | assumption)
   obtain ⟨ad209,e209,hx209_0⟩ := Kd.at_int HSz4_0 s0_1 p209 q209
   cases e209
   have hn209_0 : ad209.block ≠ g := Nat.ne_of_lt (Nat.lt_of_lt_of_le (by have := World.block_lt_of_cell? _ _ hx209_0;first | rwa [add_block] at this | exact this) (IsS119.ge HI0.out))
   replace hx209_0 := pw_cell_below HB.out hx209_0
   replace hx209_0 := (cell_far (p := ⟨g,2,none⟩) (by first | (rw [add_block];exact hn209_0) | (show (Addr.add _ _).block ≠ _;rw [add_block];exact hn209_0) | exact hn209_0) (.int .i64 (wrap64 ((wrap64 (s0_2 * 6364136223846793005)) + 1442695040888963407)))).trans hx209_0
   (try have hy209_0 := fun (n_ : Nat) => (show (((w.drewN n_).setCell ⟨g,2,none⟩ (.int .i64 (wrap64 ((wrap64 (s0_2 * 6364136223846793005)) + 1442695040888963407))))).cell? _ = some _ from hx209_0))
   clear hn209_0
   replace p209 := eq_true p209
   replace q209 := eq_true q209
   go_enter Try.func107,Try.ntmps107
   go_wp2
   repeat (go_quiet (fail);try go_wp2)
   go_ret
   exact ⟨fR_,gI119_ HI0.out,gB119_ HB.out,gK_ HK.out⟩
  ·rw [if_neg c3] at H
   exact absurd H (by simp)
 ·rw [if_neg c2] at H
  have c2b0 : decide (s0_1 < (s0_0.length : Int)) = false := decide_eq_false c2
  clear c2
  simp only [Option.some.injEq,Prod.mk.injEq] at H
  obtain ⟨rfl,rfl,rfl⟩ := H
  obtain ⟨ASz5_0,cSz5_0,HGz5,hgz5,HSz5_0⟩ := HI0.out
  have hcz5_0 := cellS119_0 HGz5
  have hcz5_1 := cellS119_1 HGz5
  have hcz5_2 := cellS119_2 HGz5
  have hfz5_1 := blk_frozen HGz5 1
  have hfz5_2 := blk_frozen HGz5 2
  clear HGz5 hgz5
  go_enter Try.func107,Try.ntmps107
  go_wp2
  repeat (go_quiet (fail);try go_wp2)
  go_ret
  exact ⟨fR_,gI119_ HI0.out,gB119_ HB.out,gK_ HK.out⟩
end Go.Proofs.Ythbcnakmnbilhaa.PFnLoad
