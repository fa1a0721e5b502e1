/- A part of the proof that the law FnExactChanSame holds for every input: the words, functions and walks that its row needs, without a condition of their own. -/
import Derived.Test.YtobachfngmpeiaaZFnExactChanSamea2
import Derived.Test.YtobachfngmpeiaaZFnExactChanSamea13
import Derived.Test.YtobachfngmpeiaaZFnExactChanSamea14
import Derived.Test.YtobachfngmpeiaaZFnExactChanSames
namespace Go.Proofs.Ytobachfngmpeiaa.PFnExactChanSame
open Go.RowKit Go.Proofs.YtobachfngmpeiaaW.PrintWords Go.Proofs.YtobachfngmpeiaaW.PrintLast Go.Proofs.YtobachfngmpeiaaW.PrintMore
attribute [local go_sem] max2_int min2_int max_two min_two max_three min_three max_four min_four   -- for this text's walks alone
set_option linter.unusedVariables false
set_option linter.unusedSimpArgs false
mutual
def spec_ChanIn.j0 : Nat → List Int → Int → Int → Bool → List (List (S170)) → Option (Int × List Int × Bool × Bool)
  | 0,_,_,_,_,_ => none
  | k + 1,x1,x2,x8,x23,x318000 => if x23 = true then (some (0,([] : List Int),false,false)) else ((spec_l9Last.f x318000 (wrap64 (x8 + 1))).bind fun t321 => ((spec_l9Last.f x318000 (wrap64 (x8 + 2))).bind fun t322 => ((spec_l9Last.f x318000 (wrap64 (x8 + 3))).bind fun t323 => (if 0 ≤ x2 then (if x2 < (x1.length : Int) then ((spec_l1In.f t321 0 (wrap64 ((rd x1 x2) - 1))).bind fun t325 => (if t325 = true then ((spec_l1In.f t322 0 (rd x1 x2)).bind fun t327 => (if t327 = true then ((spec_l1In.f t323 0 1).bind fun t328 => (spec_ChanIn.j1 k x1 x2 x8 t321 t322 t323 (!t328) x318000)) else (spec_ChanIn.j1 k x1 x2 x8 t321 t322 t323 true x318000))) else (spec_ChanIn.j1 k x1 x2 x8 t321 t322 t323 true x318000))) else (none)) else (none)))))
def spec_ChanIn.j1 : Nat → List Int → Int → Int → Int → Int → Int → Bool → List (List (S170)) → Option (Int × List Int × Bool × Bool)
  | 0,_,_,_,_,_,_,_,_ => none
  | k + 1,x1,x2,x8,x9,x10,x11,x58,x318000 => if x58 = true then (some (0,([] : List Int),false,false)) else (if 0 ≤ x2 then (if x2 < (x1.length : Int) then (spec_ChanIn.l0 k x1 x2 x8 x9 x10 0 x318000 (rd x1 x2) ([] : List Int) (x11 == 1)) else (none)) else (none))
def spec_ChanIn.l0 : Nat → List Int → Int → Int → Int → Int → Int → List (List (S170)) → Int → List Int → Bool → Option (Int × List Int × Bool × Bool)
  | 0,_,_,_,_,_,_,_,_,_,_ => none
  | k + 1,x1,x2,x8,x9,x10,x13,x318000,x331000,x331001,x331002 => if x13 < x10 then (if 0 ≤ x2 then (if x2 < (x1.length : Int) then (if (rd x1 x2) = 0 then (none) else ((spec_l9Last.f x318000 (wrap64 ((wrap64 (x8 + 4)) + (Int.tmod (wrap64 (x9 + x13)) (rd x1 x2))))).bind fun t332 => (if x331001.length < 17592186044416 then (spec_ChanIn.l0 k x1 x2 x8 x9 x10 (wrap64 (x13 + 1)) x318000 x331000 (x331001 ++ [t332]) x331002) else (none)))) else (none)) else (none)) else (some (x331000,x331001,x331002,true))
end
def spec_ChanIn.f (k : Nat) (l0_0 : List (List (S170))) (l1 : List Int) (a2 : Int) : Option (Int × List Int × Bool × Bool) := (spec_Base.f k l1 a2).bind fun t319 => (if t319 < 0 then (spec_ChanIn.j0 k l1 a2 t319 true l0_0) else ((spec_MemoryOk.f k l0_0).bind fun t320 => (spec_ChanIn.j0 k l1 a2 t319 (!t320) l0_0)))
def spec_ChanIn.T4 : Bool × List (List Nat × List Nat) := (true,[([],[]),([],[]),([1],[1]),([0,2],[0,2]),([],[]),([],[]),([5],[5]),([4,6,3],[4,6]),([],[]),([],[]),([9],[9]),([8,10,7],[8,10]),([3,11,0,1,2,3],[3]),([7,12,0,1,2,3,4,5,6,7,12],[7]),([11,13,0,1,2,3,4,5,6,7,8,9,10,11,12,13],[11])])
def spec_ChanIn.B4 : List Nat := [0,0,2,7,0,0,32,127,0,0,512,2047,4095,8191,16383]
theorem spec_ChanIn.tab4 : rtab .any (opsOf Try.f51 4) = spec_ChanIn.T4 := by kernel_rfl
theorem spec_ChanIn.bits4 : waitsOk spec_ChanIn.T4.2 spec_ChanIn.B4 = true := by kernel_rfl
def spec_ChanIn.T11 : Bool × List (List Nat × List Nat) := (true,[([],[]),([0],[0]),([],[]),([],[]),([3],[3]),([],[]),([],[]),([5,6],[5,6]),([],[]),([],[]),([8,9],[8,9]),([10],[10]),([7,11],[7,11]),([4,12],[4,12]),([2,13],[2,13]),([14],[14]),([1,15,14],[1,15]),([0,1,2,3,4,5,6,7,8,9,10,11,12,13,14,15,16],[]),([17,16,16,0,1,2,3,4,5,6,7,8,9,10,11,12,13,14,15,16],[16,17])])
def spec_ChanIn.B11 : List Nat := [0,1,0,0,8,0,0,96,0,0,768,1792,4064,8184,16380,32764,65535,131071,262143]
theorem spec_ChanIn.tab11 : rtab .any (opsOf Try.f51 11) = spec_ChanIn.T11 := by kernel_rfl
theorem spec_ChanIn.bits11 : waitsOk spec_ChanIn.T11.2 spec_ChanIn.B11 = true := by kernel_rfl
set_option maxHeartbeats 8000000 in
set_option maxRecDepth 100000 in
theorem spec_ChanIn.calls (k : Nat) (A0_0 : Option Addr) (c0_0 : Nat) (l0_0 : List (List (S170))) (A1 : Option Addr) (c1 : Nat) (l1 : List Int) (a2 : Int) (r1 : Int) (r2 : List Int) (r3 : Bool) (r4 : Bool) (w : World) (hr0_0 : Kd.C (Kd.slice 170 k170) w A0_0 l0_0.length l0_0) (hc0_0 : l0_0.length ≤ c0_0) (hr1 : Kd.C (Kd.int .i64) w A1 l1.length l1) (hc1 : l1.length ≤ c1) (h : spec_ChanIn.f k l0_0 l1 a2 = some (r1,r2,r3,r4)) :
  Calls Try.prog 51 #[.agg #[.slice A0_0 l0_0.length c0_0],.slice A1 l1.length c1,.int .i64 a2] w fun e w' => ∃ v1_ : Value,e = .returned (.tuple #[.agg #[.int .i64 r1,v1_,.bool r3],.bool r4]) ∧ Kd.R (Kd.int .i64) 3 w' w.heap.size (fun _ => True) v1_ r2 ∧ Below w.heap.size w w' := by
 have hu57 := Try.underlying57
 have hu94 := Try.underlying94
 have HR0_0 := aM_ hr0_0
 have HC0_0 := aM_ hc0_0
 clear hr0_0 hc0_0
 have HR1 := aM_ hr1
 have HC1 := aM_ hc1
 clear hr1 hc1
 have HB := aM_ (Below.refl w.heap.size w)
 have H : ((spec_Base.f k l1 a2).bind fun t319 => (if t319 < 0 then (spec_ChanIn.j0 k l1 a2 t319 true l0_0) else ((spec_MemoryOk.f k l0_0).bind fun t320 => (spec_ChanIn.j0 k l1 a2 t319 (!t320) l0_0)))) = some (r1,r2,r3,r4) := h
 clear h
 replace H := Option.bind_eq_some_iff.mp H
 obtain ⟨t319,A40,H⟩ := H
 replace H : (if t319 < 0 then (spec_ChanIn.j0 k l1 a2 t319 true l0_0) else ((spec_MemoryOk.f k l0_0).bind fun t320 => (spec_ChanIn.j0 k l1 a2 t319 (!t320) l0_0))) = some (r1,r2,r3,r4) := H
 have A4 := aM_ A40
 clear A40
 have HC5 := aM_ H
 clear H
 go_enter Try.func51,Try.ntmps51
 go_upto_region 2 with (first | ((with_reducible refine gate_dst (N := 3) rfl ?_);refine bX_ 3 (cs := #[.slice A0_0 l0_0.length c0_0]) (t := 57) ?_;intro gb317 hg w6 hbox hb;have n0 := aM_ (sT_ HB.out hb);have n1 := aM_ (hbox);have n2 := aM_ (sZ_ hg HB.out);have n3 := aM_ (sZ_ hg HB.out);clear HB;have HB := n0;have BK317 := n1;have GW317 := n2;have GE317 := n3;clear n0 n1 n2 n3;clear hb hbox hg) | ((with_reducible refine gate_dst (N := 6) rfl ?_);refine bX_ 6 (cs := #[.int .i64 0,.slice none 0 0,.bool false]) (t := 94) ?_;intro gb318 hg w7 hbox hb;have n0 := aM_ (nB_ BK317.out hb);have n1 := aM_ (sT_ HB.out hb);have n2 := aM_ (hbox);have n3 := aM_ (sZ_ hg HB.out);have n4 := aM_ (sZ_ hg HB.out);have n5 := aM_ (nL_ hg BK317.out);have n6 := aM_ (nG_ hg BK317.out);clear BK317;clear HB;have BK317 := n0;have HB := n1;have BK318 := n2;have GW318 := n3;have GE318 := n4;have NB317_318 := n5;have NB318_317 := n6;clear n0 n1 n2 n3 n4 n5 n6;clear hb hbox hg) | ((with_reducible refine gate_callee (f := 48) rfl ?_);refine gL_ (some 16) Try.func48 #[.slice A1 l1.length c1,.int .i64 a2] ?_;(with_reducible refine (spec_Base.calls k _ _ l1 a2 t319 _ ?side1 ?side2 A4.out).mono ?_);(case side1 => exact cS_ (Kd.C_below HR1.out HB.out));(case side2 => exact HC1.out);rintro e w' ⟨rfl,⟨nd,rfl⟩⟩;refine ⟨_,rfl,?_⟩))
 (try simp only [Act.put,List.setIfInBounds_toArray,List.set_cons_zero,List.set_cons_succ])
 go_cut [23] (fun v23 wc => ∃ (kq : Nat) (x23_4 : Bool),v23 = .bool x23_4 ∧ Aside0 (spec_ChanIn.j0 kq l1 a2 t319 x23_4 l0_0 = some (r1,r2,r3,r4)) ∧ Aside0 (kq ≤ k) ∧ Aside0 (wc.heap[gb317]? = some (.cells #[(.slice A0_0 l0_0.length c0_0)] 57 (0,0))) ∧ Aside0 (wc.heap[gb318]? = some (.cells #[.int .i64 0,(.slice none 0 0),.bool false] 94 (0,0))) ∧ Aside0 (Below w.heap.size w wc))
 case first =>
  have H := HC5.out
  clear HC5
  by_cases c8 : t319 < 0
  ·rw [if_pos c8] at H
   have c8b0 : decide (t319 < 0) = true := decide_eq_true c8
   clear c8
   (first | rw [c8b0] | (simp only [i64_w,i32_w];rw [c8b0]) | skip)
   have H' := aM_ H
   clear H
   go_wp2
   go_meet
   case rel => exact ⟨_,(true),(by first | rfl | (simp;done) | (simp [*];done)),H',⟨by first | omega | exact Nat.le_refl _⟩,⟨rW_ BK317.out⟩,⟨rW_ BK318.out⟩,⟨gW_ HB.out⟩⟩
  ·rw [if_neg c8] at H
   have c8b0 : decide (t319 < 0) = false := decide_eq_false c8
   clear c8
   (first | rw [c8b0] | (simp only [i64_w,i32_w];rw [c8b0]) | skip)
   replace H := Option.bind_eq_some_iff.mp H
   obtain ⟨t320,A90,H⟩ := H
   replace H : (spec_ChanIn.j0 k l1 a2 t319 (!t320) l0_0) = some (r1,r2,r3,r4) := H
   have A9 := aM_ A90
   clear A90
   have H' := aM_ H
   clear H
   have hnb10 := NB317_318.out
   have hnc10 := NB318_317.out
   have hcz11_0 : w7.cell? ⟨gb317,0,none⟩ = some (.slice A0_0 l0_0.length c0_0) := (blk_cell BK317.out 0).trans rfl
   have hfz11_0 := blk_frozen BK317.out 0
   go_wp2_with (first | (go_at_call 116;(with_reducible refine (spec_MemoryOk.calls k _ _ l0_0 t320 _ ?side1 ?side2 A9.out).mono ?_);(case side1 => exact cS_ (Kd.C_below HR0_0.out HB.out));(case side2 => exact HC0_0.out);rintro e w12 ⟨rfl,hb⟩;have n0 := aM_ (nB_ BK317.out hb);have n1 := aM_ (nB_ BK318.out hb);have n2 := aM_ (sT_ HB.out hb);clear BK317;clear BK318;clear HB;have BK317 := n0;have BK318 := n1;have HB := n2;clear n0 n1 n2))
   go_meet
   case rel => exact ⟨_,(!t320),(by first | rfl | (simp;done) | (simp [*];done)),H',⟨by first | omega | exact Nat.le_refl _⟩,⟨rW_ BK317.out⟩,⟨rW_ BK318.out⟩,⟨gW_ HB.out⟩⟩
 case rest =>
  clear HC5
  try clear c1
  try clear p2
  try clear c4
  try clear c5
  try clear c8
  try clear c8b0
  try clear c10
  try clear hcz11_0 hfz11_0
  obtain ⟨kq,x23_4,rfl,HA,HJ4,BK317,BK318,HB⟩ := hcut
  cases kq with
  | zero => exact absurd HA.out (by simp [spec_ChanIn.j0])
  | succ kj4 =>
   have H := HA.out
   clear HA
   simp only [spec_ChanIn.j0] at H
   by_cases c13 : x23_4 = true
   ·subst c13
    have H1 : (some (0,([] : List Int),false,false)) = some (r1,r2,r3,r4) := by rw [if_pos rfl] at H;exact H
    clear H
    have H := H1
    clear H1
    simp only [Option.some.injEq,Prod.mk.injEq] at H
    obtain ⟨rfl,rfl,rfl,rfl⟩ := H
    have hnb14 := NB318_317.out
    have hnc14 := NB317_318.out
    obtain ⟨hcz15_0,hcz15_1,hcz15_2,hfz15_0,hfz15_1,hfz15_2⟩ := bR3_ BK318.out
    go_wp2
    refine bodyPost_ret (results_ct rfl _ _ gb318 94 #[.int .i64 0,.slice none 0 0,.bool false] (0,0) _ rfl (by (with_reducible repeat (first | refine bN_ ?_ _ | refine bD_ ?_ | refine bA_ ?_ _));refine blk_put (cs := #[.int .i64 0,.slice none 0 0,.bool false]) ?_ 2 _ rfl;refine blk_put (cs := #[.int .i64 0,.slice none 0 0,.bool false]) ?_ 1 _ rfl;refine blk_put (cs := #[.int .i64 0,.slice none 0 0,.bool false]) ?_ 0 _ rfl;exact rW_ BK318.out) Try.underlying94 rfl (by kernel_rfl)) rfl ?_
    exact ⟨_,fR_,by first | exact Kd.R_nil _ _ _ _ _ | exact Kd.N_nil _ _ _ _ _ | exact Kd.V_nil _ _ _ _ _ | exact Kd.Q_nil _ _ _ _ _ | exact Kd.S_nil _ _ _ _ _,gB_ HB.out⟩
   ·replace c13 := Bool.eq_false_iff.mpr c13
    subst c13
    have H1 : ((spec_l9Last.f l0_0 (wrap64 (t319 + 1))).bind fun t321 => ((spec_l9Last.f l0_0 (wrap64 (t319 + 2))).bind fun t322 => ((spec_l9Last.f l0_0 (wrap64 (t319 + 3))).bind fun t323 => (if 0 ≤ a2 then (if a2 < (l1.length : Int) then ((spec_l1In.f t321 0 (wrap64 ((rd l1 a2) - 1))).bind fun t325 => (if t325 = true then ((spec_l1In.f t322 0 (rd l1 a2)).bind fun t327 => (if t327 = true then ((spec_l1In.f t323 0 1).bind fun t328 => (spec_ChanIn.j1 kj4 l1 a2 t319 t321 t322 t323 (!t328) l0_0)) else (spec_ChanIn.j1 kj4 l1 a2 t319 t321 t322 t323 true l0_0))) else (spec_ChanIn.j1 kj4 l1 a2 t319 t321 t322 t323 true l0_0))) else (none)) else (none))))) = some (r1,r2,r3,r4) := by rw [if_neg (show ¬ (false = true) by decide)] at H;exact H
    clear H
    have H := H1
    clear H1
    replace H := Option.bind_eq_some_iff.mp H
    obtain ⟨t321,A160,H⟩ := H
    replace H : ((spec_l9Last.f l0_0 (wrap64 (t319 + 2))).bind fun t322 => ((spec_l9Last.f l0_0 (wrap64 (t319 + 3))).bind fun t323 => (if 0 ≤ a2 then (if a2 < (l1.length : Int) then ((spec_l1In.f t321 0 (wrap64 ((rd l1 a2) - 1))).bind fun t325 => (if t325 = true then ((spec_l1In.f t322 0 (rd l1 a2)).bind fun t327 => (if t327 = true then ((spec_l1In.f t323 0 1).bind fun t328 => (spec_ChanIn.j1 kj4 l1 a2 t319 t321 t322 t323 (!t328) l0_0)) else (spec_ChanIn.j1 kj4 l1 a2 t319 t321 t322 t323 true l0_0))) else (spec_ChanIn.j1 kj4 l1 a2 t319 t321 t322 t323 true l0_0))) else (none)) else (none)))) = some (r1,r2,r3,r4) := H
    have A16 := aM_ A160
    clear A160
    replace H := Option.bind_eq_some_iff.mp H
    obtain ⟨t322,A170,H⟩ := H
    replace H : ((spec_l9Last.f l0_0 (wrap64 (t319 + 3))).bind fun t323 => (if 0 ≤ a2 then (if a2 < (l1.length : Int) then ((spec_l1In.f t321 0 (wrap64 ((rd l1 a2) - 1))).bind fun t325 => (if t325 = true then ((spec_l1In.f t322 0 (rd l1 a2)).bind fun t327 => (if t327 = true then ((spec_l1In.f t323 0 1).bind fun t328 => (spec_ChanIn.j1 kj4 l1 a2 t319 t321 t322 t323 (!t328) l0_0)) else (spec_ChanIn.j1 kj4 l1 a2 t319 t321 t322 t323 true l0_0))) else (spec_ChanIn.j1 kj4 l1 a2 t319 t321 t322 t323 true l0_0))) else (none)) else (none))) = some (r1,r2,r3,r4) := H
    have A17 := aM_ A170
    clear A170
    replace H := Option.bind_eq_some_iff.mp H
    obtain ⟨t323,A180,H⟩ := H
    replace H : (if 0 ≤ a2 then (if a2 < (l1.length : Int) then ((spec_l1In.f t321 0 (wrap64 ((rd l1 a2) - 1))).bind fun t325 => (if t325 = true then ((spec_l1In.f t322 0 (rd l1 a2)).bind fun t327 => (if t327 = true then ((spec_l1In.f t323 0 1).bind fun t328 => (spec_ChanIn.j1 kj4 l1 a2 t319 t321 t322 t323 (!t328) l0_0)) else (spec_ChanIn.j1 kj4 l1 a2 t319 t321 t322 t323 true l0_0))) else (spec_ChanIn.j1 kj4 l1 a2 t319 t321 t322 t323 true l0_0))) else (none)) else (none)) = some (r1,r2,r3,r4) := H
    have A18 := aM_ A180
    clear A180
    have HC19 := aM_ H
    clear H
    try go_wp2
    have n0 := aM_ (blk_drew BK317.out)
    have n1 := aM_ (blk_drew BK318.out)
    have n2 := aM_ (below_drew1 HB.out)
    clear BK317
    clear BK318
    clear HB
    have BK317 := n0
    have BK318 := n1
    have HB := n2
    clear n0 n1 n2
    refine start_ (n := 15) (S := fun w' => w'.cell? ⟨gb317,0,none⟩ = some (.slice A0_0 l0_0.length c0_0)) (ds := []) (mk_ 15 0) (by kernel_rfl) rfl rfl ((blk_cell BK317.out 0).trans rfl) (fun hHeld => ?_);refine with_tabW spec_ChanIn.tab4 spec_ChanIn.bits4 (fun HT_ HW_ => ?_)
    generalize wc.drew = w20 at BK317 BK318 HB hHeld ⊢
    refine pU_ 1 (some 26) (mk_ 15 2) ?_
    refine pU_ 2 (some 27) (mk_ 15 6) ?_
    refine pU_ 5 (some 30) (mk_ 15 38) ?_
    refine pU_ 6 (some 31) (mk_ 15 102) ?_
    refine pU_ 9 (some 34) (mk_ 15 614) ?_
    refine pU_ 10 (some 35) (mk_ 15 1638) ?_
    refine take_ (i := 0) (N := some 25) (v := ?_) (a' := ?_) #[true,true,true,false,false,true,true,false,false,true,true,false,false,false,false] rfl rfl (take_ofW HT_.out HW_.out (by kernel_rfl)) (fun _ _ _ h => h) (Or.inl ⟨by rfl,?_⟩) hHeld ?_ ?_
    rotate_left
    ·intro w' s0
     go_simp
     with_reducible rfl
    rotate_left
    ·simp only [pt_,pn_,sI_,s0_,s1_,i64_w,i32_w]
     rfl
    refine take_ (i := 4) (N := some 29) (v := ?_) (a' := ?_) #[true,true,true,false,true,true,true,false,false,true,true,false,false,false,false] rfl rfl (take_ofW HT_.out HW_.out (by kernel_rfl)) (fun _ _ _ h => h) (Or.inl ⟨by rfl,?_⟩) hHeld ?_ ?_
    rotate_left
    ·intro w' s0
     go_simp
     with_reducible rfl
    rotate_left
    ·simp only [pt_,pn_,sI_,s0_,s1_,i64_w,i32_w]
     rfl
    refine take_ (i := 8) (N := some 33) (v := ?_) (a' := ?_) #[true,true,true,false,true,true,true,false,true,true,true,false,false,false,false] rfl rfl (take_ofW HT_.out HW_.out (by kernel_rfl)) (fun _ _ _ h => h) (Or.inl ⟨by rfl,?_⟩) hHeld ?_ ?_
    rotate_left
    ·intro w' s0
     go_simp
     with_reducible rfl
    rotate_left
    ·simp only [pt_,pn_,sI_,s0_,s1_,i64_w,i32_w]
     rfl
    refine oN_ 3 (some 28) (mk_ 15 1919) (fun K hK => ?_)
    refine gO_ Try.func117 #[.agg #[.slice A0_0 l0_0.length c0_0],.int .i64 (wrap64 (t319 + 1))] ?_
    with_reducible refine (spec_l9Last.calls _ _ l0_0 (wrap64 (t319 + 1)) t321 _ ?side1 ?side2 A16.out).mono ?_
    (case side1 => exact cS_ (Kd.C_below HR0_0.out HB.out))
    (case side2 => exact HC0_0.out)
    rintro e w21 ⟨rfl,hb⟩
    refine ⟨_,rfl,?_⟩
    have n0 := aM_ (nB_ BK317.out hb)
    have n1 := aM_ (nB_ BK318.out hb)
    have n2 := aM_ (sT_ HB.out hb)
    clear BK317
    clear BK318
    clear HB
    have BK317 := n0
    have BK318 := n1
    have HB := n2
    clear n0 n1 n2
    (try clear hb)
    (try clear hb2)
    (try clear hk)
    (try clear hi)
    refine hK.out _ _ ((blk_cell BK317.out 0).trans rfl) (fun hHeld => ?_)
    clear hK K
    refine norm_ (a' := ?_) ?_ ?_
    rotate_left
    ·show Act.put _ (some 28) _ = _
     simp only [pt_,pn_,sI_,s0_,s1_,i64_w,i32_w]
     rfl
    refine oN_ 7 (some 32) (mk_ 15 2047) (fun K hK => ?_)
    refine gO_ Try.func117 #[.agg #[.slice A0_0 l0_0.length c0_0],.int .i64 (wrap64 (t319 + 2))] ?_
    with_reducible refine (spec_l9Last.calls _ _ l0_0 (wrap64 (t319 + 2)) t322 _ ?side1 ?side2 A17.out).mono ?_
    (case side1 => exact cS_ (Kd.C_below HR0_0.out HB.out))
    (case side2 => exact HC0_0.out)
    rintro e w22 ⟨rfl,hb⟩
    refine ⟨_,rfl,?_⟩
    have n0 := aM_ (nB_ BK317.out hb)
    have n1 := aM_ (nB_ BK318.out hb)
    have n2 := aM_ (sT_ HB.out hb)
    clear BK317
    clear BK318
    clear HB
    have BK317 := n0
    have BK318 := n1
    have HB := n2
    clear n0 n1 n2
    (try clear hb)
    (try clear hb2)
    (try clear hk)
    (try clear hi)
    refine hK.out _ _ ((blk_cell BK317.out 0).trans rfl) (fun hHeld => ?_)
    clear hK K
    refine norm_ (a' := ?_) ?_ ?_
    rotate_left
    ·show Act.put _ (some 32) _ = _
     simp only [pt_,pn_,sI_,s0_,s1_,i64_w,i32_w]
     rfl
    refine oN_ 11 (some 36) (mk_ 15 4095) (fun K hK => ?_)
    refine gO_ Try.func117 #[.agg #[.slice A0_0 l0_0.length c0_0],.int .i64 (wrap64 (t319 + 3))] ?_
    with_reducible refine (spec_l9Last.calls _ _ l0_0 (wrap64 (t319 + 3)) t323 _ ?side1 ?side2 A18.out).mono ?_
    (case side1 => exact cS_ (Kd.C_below HR0_0.out HB.out))
    (case side2 => exact HC0_0.out)
    rintro e w23 ⟨rfl,hb⟩
    refine ⟨_,rfl,?_⟩
    have n0 := aM_ (nB_ BK317.out hb)
    have n1 := aM_ (nB_ BK318.out hb)
    have n2 := aM_ (sT_ HB.out hb)
    clear BK317
    clear BK318
    clear HB
    have BK317 := n0
    have BK318 := n1
    have HB := n2
    clear n0 n1 n2
    (try clear hb)
    (try clear hb2)
    (try clear hk)
    (try clear hi)
    refine hK.out _ _ ((blk_cell BK317.out 0).trans rfl) (fun hHeld => ?_)
    clear hK K
    refine norm_ (a' := ?_) ?_ ?_
    rotate_left
    ·show Act.put _ (some 36) _ = _
     simp only [pt_,pn_,sI_,s0_,s1_,i64_w,i32_w]
     rfl
    refine pU_ 12 (some 9) (mk_ 15 8191) ?_
    refine pU_ 13 (some 10) (mk_ 15 16383) ?_
    refine pU_ 14 (some 11) (mk_ 15 32767) ?_
    refine done_ (done_of HT_.out (by kernel_rfl)) ?_
    go_upto_region 5 with (fail)
    go_cut [58] (fun v58 wc => ∃ (kq : Nat) (x58_18 : Bool),v58 = .bool x58_18 ∧ Aside0 (spec_ChanIn.j1 kq l1 a2 t319 t321 t322 t323 x58_18 l0_0 = some (r1,r2,r3,r4)) ∧ Aside0 (kq ≤ kj4) ∧ Aside0 (wc.heap[gb317]? = some (.cells #[(.slice A0_0 l0_0.length c0_0)] 57 (0,0))) ∧ Aside0 (wc.heap[gb318]? = some (.cells #[.int .i64 0,(.slice none 0 0),.bool false] 94 (0,0))) ∧ Aside0 (Below w.heap.size w wc))
    case first =>
     have H := HC19.out
     clear HC19
     by_cases c24 : 0 ≤ a2
     ·rw [if_pos c24] at H
      have c24b0 : decide (0 ≤ a2) = true := decide_eq_true c24
      clear c24
      (first | rw [c24b0] | (simp only [i64_w,i32_w];rw [c24b0]) | skip)
      by_cases c25 : a2 < (l1.length : Int)
      ·rw [if_pos c25] at H
       have c25b0 : decide (a2 < (l1.length : Int)) = true := decide_eq_true c25
       clear c25
       replace H := Option.bind_eq_some_iff.mp H
       obtain ⟨t325,A260,H⟩ := H
       replace H : (if t325 = true then ((spec_l1In.f t322 0 (rd l1 a2)).bind fun t327 => (if t327 = true then ((spec_l1In.f t323 0 1).bind fun t328 => (spec_ChanIn.j1 kj4 l1 a2 t319 t321 t322 t323 (!t328) l0_0)) else (spec_ChanIn.j1 kj4 l1 a2 t319 t321 t322 t323 true l0_0))) else (spec_ChanIn.j1 kj4 l1 a2 t319 t321 t322 t323 true l0_0)) = some (r1,r2,r3,r4) := H
       have A26 := aM_ A260
       clear A260
       by_cases c27 : t325 = true
       ·subst c27
        have H1 : ((spec_l1In.f t322 0 (rd l1 a2)).bind fun t327 => (if t327 = true then ((spec_l1In.f t323 0 1).bind fun t328 => (spec_ChanIn.j1 kj4 l1 a2 t319 t321 t322 t323 (!t328) l0_0)) else (spec_ChanIn.j1 kj4 l1 a2 t319 t321 t322 t323 true l0_0))) = some (r1,r2,r3,r4) := by rw [if_pos rfl] at H;exact H
        clear H
        have H := H1
        clear H1
        replace H := Option.bind_eq_some_iff.mp H
        obtain ⟨t327,A280,H⟩ := H
        replace H : (if t327 = true then ((spec_l1In.f t323 0 1).bind fun t328 => (spec_ChanIn.j1 kj4 l1 a2 t319 t321 t322 t323 (!t328) l0_0)) else (spec_ChanIn.j1 kj4 l1 a2 t319 t321 t322 t323 true l0_0)) = some (r1,r2,r3,r4) := H
        have A28 := aM_ A280
        clear A280
        by_cases c29 : t327 = true
        ·subst c29
         have H1 : ((spec_l1In.f t323 0 1).bind fun t328 => (spec_ChanIn.j1 kj4 l1 a2 t319 t321 t322 t323 (!t328) l0_0)) = some (r1,r2,r3,r4) := by rw [if_pos rfl] at H;exact H
         clear H
         have H := H1
         clear H1
         replace H := Option.bind_eq_some_iff.mp H
         obtain ⟨t328,A300,H⟩ := H
         replace H : (spec_ChanIn.j1 kj4 l1 a2 t319 t321 t322 t323 (!t328) l0_0) = some (r1,r2,r3,r4) := H
         have A30 := aM_ A300
         clear A300
         have H' := aM_ H
         clear H
         have p324 : 0 ≤ (a2 : Int) := of_decide_eq_true (by first | (with_reducible assumption) | assumption)
         have q324 : a2 < (l1.length : Int) := of_decide_eq_true (by first | (with_reducible assumption) | assumption)
         obtain ⟨ad324,e324,hx324_0⟩ := Kd.at_int HR1.out a2 p324 q324
         cases e324
         replace hx324_0 := cB_ HB.out hx324_0
         replace p324 := eq_true p324
         replace q324 := eq_true q324
         go_wp2_with (first | ((with_reducible refine gate_callee (f := 111) rfl ?_);refine gL_ (some 43) Try.func111 #[.int .i64 t321,.int .i64 0,.int .i64 (wrap64 ((rd l1 a2) - 1))] ?_;(with_reducible refine (spec_l1In.calls t321 0 (wrap64 ((rd l1 a2) - 1)) true _ A26.out).mono ?_);rintro e w' ⟨rfl,⟨nd,rfl⟩⟩;refine ⟨_,rfl,?_⟩;have p326 : 0 ≤ (a2 : Int) := of_decide_eq_true (by first | (with_reducible assumption) | assumption);have q326 : a2 < (l1.length : Int) := of_decide_eq_true (by first | (with_reducible assumption) | assumption);obtain ⟨ad326,e326,hx326_0⟩ := Kd.at_int HR1.out a2 p326 q326;obtain rfl : ad324 = ad326 := (by injection e326);replace hx326_0 := cB_ HB.out hx326_0;replace p326 := eq_true p326;replace q326 := eq_true q326) | (go_at_call 111;(with_reducible refine (spec_l1In.calls t322 0 (rd l1 a2) true _ A28.out).mono ?_);rintro e w' ⟨rfl,⟨nd,rfl⟩⟩) | (go_at_call 111;(with_reducible refine (spec_l1In.calls t323 0 1 t328 _ A30.out).mono ?_);rintro e w' ⟨rfl,⟨nd,rfl⟩⟩))
         go_meet
         case rel => exact ⟨_,(!t328),(by first | rfl | (simp;done) | (simp [*];done)),H',⟨by have := HJ4.out;first | omega | exact Nat.le_refl _⟩,⟨rW_ BK317.out⟩,⟨rW_ BK318.out⟩,⟨gW_ HB.out⟩⟩
        ·replace c29 := Bool.eq_false_iff.mpr c29
         subst c29
         have H1 : (spec_ChanIn.j1 kj4 l1 a2 t319 t321 t322 t323 true l0_0) = some (r1,r2,r3,r4) := by rw [if_neg (show ¬ (false = true) by decide)] at H;exact H
         clear H
         have H := H1
         clear H1
         have H' := aM_ H
         clear H
         have p324 : 0 ≤ (a2 : Int) := of_decide_eq_true (by first | (with_reducible assumption) | assumption)
         have q324 : a2 < (l1.length : Int) := of_decide_eq_true (by first | (with_reducible assumption) | assumption)
         obtain ⟨ad324,e324,hx324_0⟩ := Kd.at_int HR1.out a2 p324 q324
         cases e324
         replace hx324_0 := cB_ HB.out hx324_0
         replace p324 := eq_true p324
         replace q324 := eq_true q324
         go_wp2_with (first | ((with_reducible refine gate_callee (f := 111) rfl ?_);refine gL_ (some 43) Try.func111 #[.int .i64 t321,.int .i64 0,.int .i64 (wrap64 ((rd l1 a2) - 1))] ?_;(with_reducible refine (spec_l1In.calls t321 0 (wrap64 ((rd l1 a2) - 1)) true _ A26.out).mono ?_);rintro e w' ⟨rfl,⟨nd,rfl⟩⟩;refine ⟨_,rfl,?_⟩;have p326 : 0 ≤ (a2 : Int) := of_decide_eq_true (by first | (with_reducible assumption) | assumption);have q326 : a2 < (l1.length : Int) := of_decide_eq_true (by first | (with_reducible assumption) | assumption);obtain ⟨ad326,e326,hx326_0⟩ := Kd.at_int HR1.out a2 p326 q326;obtain rfl : ad324 = ad326 := (by injection e326);replace hx326_0 := cB_ HB.out hx326_0;replace p326 := eq_true p326;replace q326 := eq_true q326) | (go_at_call 111;(with_reducible refine (spec_l1In.calls t322 0 (rd l1 a2) false _ A28.out).mono ?_);rintro e w' ⟨rfl,⟨nd,rfl⟩⟩))
         go_meet
         case rel => exact ⟨_,(true),(by first | rfl | (simp;done) | (simp [*];done)),H',⟨by have := HJ4.out;first | omega | exact Nat.le_refl _⟩,⟨rW_ BK317.out⟩,⟨rW_ BK318.out⟩,⟨gW_ HB.out⟩⟩
       ·replace c27 := Bool.eq_false_iff.mpr c27
        subst c27
        have H1 : (spec_ChanIn.j1 kj4 l1 a2 t319 t321 t322 t323 true l0_0) = some (r1,r2,r3,r4) := by rw [if_neg (show ¬ (false = true) by decide)] at H;exact H
        clear H
        have H := H1
        clear H1
        have H' := aM_ H
        clear H
        have p324 : 0 ≤ (a2 : Int) := of_decide_eq_true (by first | (with_reducible assumption) | assumption)
        have q324 : a2 < (l1.length : Int) := of_decide_eq_true (by first | (with_reducible assumption) | assumption)
        obtain ⟨ad324,e324,hx324_0⟩ := Kd.at_int HR1.out a2 p324 q324
        cases e324
        replace hx324_0 := cB_ HB.out hx324_0
        replace p324 := eq_true p324
        replace q324 := eq_true q324
        go_wp2_with (first | ((with_reducible refine gate_callee (f := 111) rfl ?_);refine gL_ (some 43) Try.func111 #[.int .i64 t321,.int .i64 0,.int .i64 (wrap64 ((rd l1 a2) - 1))] ?_;(with_reducible refine (spec_l1In.calls t321 0 (wrap64 ((rd l1 a2) - 1)) false _ A26.out).mono ?_);rintro e w' ⟨rfl,⟨nd,rfl⟩⟩;refine ⟨_,rfl,?_⟩))
        go_meet
        case rel => exact ⟨_,(true),(by first | rfl | (simp;done) | (simp [*];done)),H',⟨by have := HJ4.out;first | omega | exact Nat.le_refl _⟩,⟨rW_ BK317.out⟩,⟨rW_ BK318.out⟩,⟨gW_ HB.out⟩⟩
      ·rw [if_neg c25] at H
       exact absurd H (by simp)
     ·rw [if_neg c24] at H
      exact absurd H (by simp)
    case rest =>
     clear HC19
     try clear c1
     try clear c2
     try clear p2
     try clear p3
     try clear q3
     try clear hx3
     try clear c4
     try clear c5
     try clear p6
     try clear c8
     try clear c8b0
     try clear c10
     try clear c11
     try clear c13
     try clear c14
     try clear c24
     try clear c24b0
     try clear c25
     try clear c25b0
     try clear c27
     try clear c29
     try clear hcz11_0 hfz11_0
     try clear hcz15_0 hcz15_1 hcz15_2 hfz15_0 hfz15_1 hfz15_2
     try clear hx324_0
     try clear hx326_0
     try clear p2
     try clear p324
     try clear p326
     try clear q324
     try clear q326
     obtain ⟨kq,x58_18,rfl,HA,HJ18,BK317,BK318,HB⟩ := hcut
     cases kq with
     | zero => exact absurd HA.out (by simp [spec_ChanIn.j1])
     | succ kj18 =>
      have H := HA.out
      clear HA
      simp only [spec_ChanIn.j1] at H
      by_cases c31 : x58_18 = true
      ·subst c31
       have H1 : (some (0,([] : List Int),false,false)) = some (r1,r2,r3,r4) := by rw [if_pos rfl] at H;exact H
       clear H
       have H := H1
       clear H1
       simp only [Option.some.injEq,Prod.mk.injEq] at H
       obtain ⟨rfl,rfl,rfl,rfl⟩ := H
       have hnb32 := NB318_317.out
       have hnc32 := NB317_318.out
       obtain ⟨hcz33_0,hcz33_1,hcz33_2,hfz33_0,hfz33_1,hfz33_2⟩ := bR3_ BK318.out
       go_wp2
       refine bodyPost_ret (results_ct rfl _ _ gb318 94 #[.int .i64 0,.slice none 0 0,.bool false] (0,0) _ rfl (by (with_reducible repeat (first | refine bN_ ?_ _ | refine bD_ ?_ | refine bA_ ?_ _));refine blk_put (cs := #[.int .i64 0,.slice none 0 0,.bool false]) ?_ 2 _ rfl;refine blk_put (cs := #[.int .i64 0,.slice none 0 0,.bool false]) ?_ 1 _ rfl;refine blk_put (cs := #[.int .i64 0,.slice none 0 0,.bool false]) ?_ 0 _ rfl;exact rW_ BK318.out) Try.underlying94 rfl (by kernel_rfl)) rfl ?_
       exact ⟨_,fR_,by first | exact Kd.R_nil _ _ _ _ _ | exact Kd.N_nil _ _ _ _ _ | exact Kd.V_nil _ _ _ _ _ | exact Kd.Q_nil _ _ _ _ _ | exact Kd.S_nil _ _ _ _ _,gB_ HB.out⟩
      ·replace c31 := Bool.eq_false_iff.mpr c31
       subst c31
       have H1 : (if 0 ≤ a2 then (if a2 < (l1.length : Int) then (spec_ChanIn.l0 kj18 l1 a2 t319 t321 t322 0 l0_0 (rd l1 a2) ([] : List Int) (t323 == 1)) else (none)) else (none)) = some (r1,r2,r3,r4) := by rw [if_neg (show ¬ (false = true) by decide)] at H;exact H
       clear H
       have H := H1
       clear H1
       by_cases c34 : 0 ≤ a2
       ·rw [if_pos c34] at H
        have c34b0 : decide (0 ≤ a2) = true := decide_eq_true c34
        clear c34
        by_cases c35 : a2 < (l1.length : Int)
        ·rw [if_pos c35] at H
         have c35b0 : decide (a2 < (l1.length : Int)) = true := decide_eq_true c35
         clear c35
         have H' := aM_ H
         clear H
         have p329 : 0 ≤ (a2 : Int) := of_decide_eq_true (by first | (with_reducible assumption) | assumption)
         have q329 : a2 < (l1.length : Int) := of_decide_eq_true (by first | (with_reducible assumption) | assumption)
         obtain ⟨ad329,e329,hx329_0⟩ := Kd.at_int HR1.out a2 p329 q329
         cases e329
         replace hx329_0 := cB_ HB.out hx329_0
         replace p329 := eq_true p329
         replace q329 := eq_true q329
         go_wp2_with (first | ((with_reducible refine gate_dst (N := 12) rfl ?_);refine bX_ 12 (cs := #[.int .i64 0,.slice none 0 0,.bool false]) (t := 94) ?_;intro gb330 hg w36 hbox hb;have n0 := aM_ (nB_ BK317.out hb);have n1 := aM_ (nB_ BK318.out hb);have n2 := aM_ (sT_ HB.out hb);have n3 := aM_ (hbox);have n4 := aM_ (sZ_ hg HB.out);have n5 := aM_ (sZ_ hg HB.out);have n6 := aM_ (nL_ hg BK317.out);have n7 := aM_ (nG_ hg BK317.out);have n8 := aM_ (nL_ hg BK318.out);have n9 := aM_ (nG_ hg BK318.out);clear BK317;clear BK318;clear HB;have BK317 := n0;have BK318 := n1;have HB := n2;have BK330 := n3;have GW330 := n4;have GE330 := n5;have NB317_330 := n6;have NB330_317 := n7;have NB318_330 := n8;have NB330_318 := n9;clear n0 n1 n2 n3 n4 n5 n6 n7 n8 n9;clear hb hbox hg;have hnb37 := NB330_317.out;have hnc37 := NB317_330.out;have hnb38 := NB330_318.out;have hnc38 := NB318_330.out;obtain ⟨hcz39_0,hcz39_1,hcz39_2,hfz39_0,hfz39_1,hfz39_2⟩ := bR3_ BK330.out))
         go_loopg [13] kj18 (fun kq v13 w' => ∃ (x13_3 : Int) (x3311_3 : List Int) (u3311 : Value),v13 = .int .i64 x13_3 ∧ Aside0 (spec_ChanIn.l0 kq l1 a2 t319 t321 t322 x13_3 l0_0 (rd l1 a2) x3311_3 (t323 == 1) = some (r1,r2,r3,r4)) ∧ Aside0 (kq ≤ kj18) ∧ Aside0 (Kd.R (Kd.int .i64) 3 w' w.heap.size (fun _ => True) u3311 x3311_3) ∧ Aside0 (w'.heap[gb317]? = some (.cells #[(.slice A0_0 l0_0.length c0_0)] 57 (0,0))) ∧ Aside0 (w'.heap[gb318]? = some (.cells #[.int .i64 0,(.slice none 0 0),.bool false] 94 (0,0))) ∧ Aside0 (w'.heap[gb330]? = some (.cells #[.int .i64 (rd l1 a2),u3311,.bool (t323 == 1)] 94 (0,0))) ∧ Aside0 (Below w.heap.size w w'))
         case atStart => exact ⟨(0),(([] : List Int)),(.slice none 0 0),(by first | rfl | (simp;done) | (simp [*];done)),H',⟨Nat.le_refl _⟩,⟨by first | exact Kd.R_nil _ _ _ _ _ | exact Kd.N_nil _ _ _ _ _ | exact Kd.V_nil _ _ _ _ _ | exact Kd.Q_nil _ _ _ _ _ | exact Kd.S_nil _ _ _ _ _⟩,⟨by (with_reducible repeat (first | refine bN_ ?_ _ | refine bD_ ?_ | refine bA_ ?_ _));refine blk_far ?_ NB317_330.out _;(with_reducible repeat (first | refine bN_ ?_ _ | refine bD_ ?_ | refine bA_ ?_ _));refine blk_far ?_ NB317_330.out _;(with_reducible repeat (first | refine bN_ ?_ _ | refine bD_ ?_ | refine bA_ ?_ _));refine blk_far ?_ NB317_330.out _;(with_reducible repeat (first | refine bN_ ?_ _ | refine bD_ ?_ | refine bA_ ?_ _));exact BK317.out⟩,⟨by (with_reducible repeat (first | refine bN_ ?_ _ | refine bD_ ?_ | refine bA_ ?_ _));refine blk_far ?_ NB318_330.out _;(with_reducible repeat (first | refine bN_ ?_ _ | refine bD_ ?_ | refine bA_ ?_ _));refine blk_far ?_ NB318_330.out _;(with_reducible repeat (first | refine bN_ ?_ _ | refine bD_ ?_ | refine bA_ ?_ _));refine blk_far ?_ NB318_330.out _;(with_reducible repeat (first | refine bN_ ?_ _ | refine bD_ ?_ | refine bA_ ?_ _));exact BK318.out⟩,⟨by (with_reducible repeat (first | refine bN_ ?_ _ | refine bD_ ?_ | refine bA_ ?_ _));refine blk_put (cs := #[.int .i64 (rd l1 a2),.slice none 0 0,.bool false]) ?_ 2 _ rfl;refine blk_put (cs := #[.int .i64 (rd l1 a2),.slice none 0 0,.bool false]) ?_ 1 _ rfl;refine blk_put (cs := #[.int .i64 0,.slice none 0 0,.bool false]) ?_ 0 _ rfl;(with_reducible repeat (first | refine bN_ ?_ _ | refine bD_ ?_ | refine bA_ ?_ _));exact BK330.out⟩,⟨gW_ HB.out⟩⟩
         case round =>
          clear H'
          try clear c1
          try clear c2
          try clear p2
          try clear c3
          try clear p3
          try clear q3
          try clear hx3
          try clear c4
          try clear c5
          try clear p6
          try clear c8
          try clear c8b0
          try clear c10
          try clear c11
          try clear c13
          try clear c14
          try clear c24
          try clear c24b0
          try clear c25
          try clear c25b0
          try clear c27
          try clear c29
          try clear c31
          try clear c32
          try clear p32
          try clear q32
          try clear hx32
          try clear c34
          try clear c34b0
          try clear c35
          try clear c35b0
          try clear c37
          try clear c38
          try clear hcz11_0 hfz11_0
          try clear hcz15_0 hcz15_1 hcz15_2 hfz15_0 hfz15_1 hfz15_2
          try clear hcz33_0 hcz33_1 hcz33_2 hfz33_0 hfz33_1 hfz33_2
          try clear hcz39_0 hcz39_1 hcz39_2 hfz39_0 hfz39_1 hfz39_2
          try clear hx324_0
          try clear hx326_0
          try clear hx329_0
          try clear p2
          try clear p3
          try clear p324
          try clear p326
          try clear p329
          try clear p6
          try clear q3
          try clear q324
          try clear q326
          try clear q329
          obtain ⟨x13_3,x3311_3,u3311,rfl,HA,HK3,HO_331001,BK317,BK318,BK330,HB⟩ := hrel
          cases gk with
          | zero => exact absurd HA.out (by simp [spec_ChanIn.l0])
          | succ k3 =>
           have H := HA.out
           clear HA
           simp only [spec_ChanIn.l0] at H
           by_cases c40 : x13_3 < t322
           ·rw [if_pos c40] at H
            have c40b0 : decide (x13_3 < t322) = true := decide_eq_true c40
            clear c40
            by_cases c41 : 0 ≤ a2
            ·rw [if_pos c41] at H
             have c41b0 : decide (0 ≤ a2) = true := decide_eq_true c41
             clear c41
             by_cases c42 : a2 < (l1.length : Int)
             ·rw [if_pos c42] at H
              have c42b0 : decide (a2 < (l1.length : Int)) = true := decide_eq_true c42
              clear c42
              by_cases c43 : (rd l1 a2) = 0
              ·rw [if_pos c43] at H
               exact absurd H (by simp)
              ·rw [if_neg c43] at H
               have c43b0 : ((rd l1 a2) == 0) = false := beq_eq_false_iff_ne.mpr c43
               have c43b1 : ((rd l1 a2) != 0) = true := bne_iff_ne.mpr c43
               replace H := Option.bind_eq_some_iff.mp H
               obtain ⟨t332,A440,H⟩ := H
               replace H : (if x3311_3.length < 17592186044416 then (spec_ChanIn.l0 k3 l1 a2 t319 t321 t322 (wrap64 (x13_3 + 1)) l0_0 (rd l1 a2) (x3311_3 ++ [t332]) (t323 == 1)) else (none)) = some (r1,r2,r3,r4) := H
               have A44 := aM_ A440
               clear A440
               by_cases c45 : x3311_3.length < 17592186044416
               ·rw [if_pos c45] at H
                have LMc45 := aM_ c45
                clear c45
                obtain ⟨y333,hy333⟩ : ∃ y_ : List Int,y_ = (x3311_3 ++ [t332]) := ⟨_,rfl⟩
                replace H : (spec_ChanIn.l0 k3 l1 a2 t319 t321 t322 (wrap64 (x13_3 + 1)) l0_0 (rd l1 a2) y333 (t323 == 1)) = some (r1,r2,r3,r4) := by first | (rw [hy333];with_reducible exact H) | (have H2_ := (Option.bind_some _ _).symm.trans H;rw [hy333];with_reducible exact H2_) | (have H2_ := (Option.bind_some _ _).symm.trans H;with_reducible exact H2_) | with_reducible exact H | (rw [hy333];exact H) | exact H
                have Ny333 := aM_ hy333
                clear hy333
                have H' := aM_ H
                clear H
                try go_wp2
                have n0 := aM_ (Kd.R_drew HO_331001.out)
                have n1 := aM_ (blk_drew BK317.out)
                have n2 := aM_ (blk_drew BK318.out)
                have n3 := aM_ (blk_drew BK330.out)
                have n4 := aM_ (below_drew1 HB.out)
                clear HO_331001
                clear BK317
                clear BK318
                clear BK330
                clear HB
                have HO_331001 := n0
                have BK317 := n1
                have BK318 := n2
                have BK330 := n3
                have HB := n4
                clear n0 n1 n2 n3 n4
                have p331 : 0 ≤ (a2 : Int) := of_decide_eq_true (by first | (with_reducible assumption) | assumption)
                have q331 : a2 < (l1.length : Int) := of_decide_eq_true (by first | (with_reducible assumption) | assumption)
                obtain ⟨ad331,e331,hx331_0⟩ := Kd.at_int HR1.out a2 p331 q331
                have hw331_0 := hx331_0
                obtain rfl : ad329 = ad331 := (by injection e331)
                replace hx331_0 := cB_ HB.out hx331_0
                replace p331 := eq_true p331
                replace q331 := eq_true q331
                refine start_ (n := 19) (S := fun w' => w'.cell? ⟨gb330,0,none⟩ = some (.int .i64 (rd l1 a2)) ∧ w'.cell? ⟨gb330,1,none⟩ = some (u3311) ∧ w'.cell? ⟨gb330,2,none⟩ = some (.bool (t323 == 1)) ∧ w'.cell? ⟨gb317,0,none⟩ = some (.slice A0_0 l0_0.length c0_0) ∧ w'.cell? (ad329.add (a2).toNat) = some (.int .i64 (rd l1 a2))) (ds := [18]) #[false,false,false,false,false,false,false,false,false,false,false,false,false,false,false,false,false,false,false] (by kernel_rfl) rfl rfl ⟨(blk_cell BK330.out 0).trans rfl,(blk_cell BK330.out 1).trans rfl,(blk_cell BK330.out 2).trans rfl,(blk_cell BK317.out 0).trans rfl,(cB_ HB.out hw331_0 :)⟩ (fun hHeld => ?_);refine with_tabW spec_ChanIn.tab11 spec_ChanIn.bits11 (fun HT_ HW_ => ?_)
                generalize wr.drew = w46 at HO_331001 BK317 BK318 BK330 HB hx331_0 hHeld ⊢
                refine pU_ 0 (some 72) (mk_ 19 1) ?_
                refine pU_ 3 (some 75) (mk_ 19 9) ?_
                refine pU_ 4 (some 76) (mk_ 19 25) ?_
                refine pU_ 5 (some 77) (mk_ 19 57) ?_
                refine pU_ 6 (some 78) (mk_ 19 121) ?_
                refine pU_ 7 (some 79) (mk_ 19 249) ?_
                refine pU_ 8 (some 80) (mk_ 19 505) ?_
                refine pU_ 9 (some 81) (mk_ 19 1017) ?_
                refine pU_ 10 (some 82) (mk_ 19 2041) ?_
                refine tK5_ 1 (some 73) (mk_ 19 2043) ?_
                refine tK5_ 2 (some 74) (mk_ 19 2047) ?_
                refine tK5_ 11 (some 83) (mk_ 19 4095) ?_
                refine pU_ 12 (some 84) (mk_ 19 8191) ?_
                refine pU_ 13 (some 85) (mk_ 19 16383) ?_
                refine oN_ 14 (some 86) (mk_ 19 32767) (fun K hK => ?_)
                refine gO_ Try.func117 #[.agg #[.slice A0_0 l0_0.length c0_0],.int .i64 (wrap64 ((wrap64 (t319 + 4)) + (Int.tmod (wrap64 (t321 + x13_3)) (rd l1 a2))))] ?_
                with_reducible refine (spec_l9Last.calls _ _ l0_0 (wrap64 ((wrap64 (t319 + 4)) + (Int.tmod (wrap64 (t321 + x13_3)) (rd l1 a2)))) t332 _ ?side1 ?side2 A44.out).mono ?_
                (case side1 => exact cS_ (Kd.C_below HR0_0.out HB.out))
                (case side2 => exact HC0_0.out)
                rintro e w47 ⟨rfl,hb⟩
                refine ⟨_,rfl,?_⟩
                have n0 := aM_ (bR_ HO_331001.out hb)
                have n1 := aM_ (nB_ BK317.out hb)
                have n2 := aM_ (nB_ BK318.out hb)
                have n3 := aM_ (nB_ BK330.out hb)
                have n4 := aM_ (sT_ HB.out hb)
                clear HO_331001
                clear BK317
                clear BK318
                clear BK330
                clear HB
                have HO_331001 := n0
                have BK317 := n1
                have BK318 := n2
                have BK330 := n3
                have HB := n4
                clear n0 n1 n2 n3 n4
                (try clear hb)
                (try clear hb2)
                (try clear hk)
                (try clear hi)
                refine hK.out _ _ ⟨(blk_cell BK330.out 0).trans rfl,(blk_cell BK330.out 1).trans rfl,(blk_cell BK330.out 2).trans rfl,(blk_cell BK317.out 0).trans rfl,(cB_ HB.out hw331_0 :)⟩ (fun hHeld => ?_)
                clear hK K
                refine norm_ (a' := ?_) ?_ ?_
                rotate_left
                ·show Act.put _ (some 86) _ = _
                 simp only [pt_,pn_,sI_,s0_,s1_,i64_w,i32_w]
                 rfl
                refine oN_ 15 (some 87) (mk_ 19 65535) (fun K hK => ?_)
                refine value_ (w1 := ?_) (v := ?_) (by rfl) rfl ?_ ?_
                rotate_left 2
                ·go_simp
                 constructor
                 ·rfl
                 ·rfl
                refine hK.out _ _ ⟨(blk_cell (blk_alloc BK330.out _) 0).trans rfl,(blk_cell (blk_alloc BK330.out _) 1).trans rfl,(blk_cell (blk_alloc BK330.out _) 2).trans rfl,(blk_cell (blk_alloc BK317.out _) 0).trans rfl,(World.cell?_alloc_lt _ _ _ (World.block_lt_of_cell? _ _ ((cB_ HB.out hw331_0 :)))).trans ((cB_ HB.out hw331_0 :))⟩ (fun hHeld => ?_)
                clear hK K
                refine norm_ (a' := ?_) ?_ ?_
                rotate_left
                ·show Act.put _ (some 87) _ = _
                 simp only [pt_,pn_,sI_,s0_,s1_,i64_w,i32_w]
                 rfl
                refine oN_ 16 (some 88) (mk_ 19 131071) (fun K hK => ?_)
                refine Kd.R_append_step (Kd.int .i64) (w0 := w) w.heap.size (by rfl) (.tmp 73) (.tmp 87) 31 3 (.int .i64 0) 8 rfl Try.underlying31 info3 rfl (by decide) (by omega) u3311 x3311_3 t332 [.int .i64 t332] (fun _ => True) (fun _ => False) rfl rfl ?aP (fun _ hk => hk.elim) ?aF ?aO ?aB ?aS ?aL ?_
                (case aP => exact rfl)
                (case aB => exact (gB_ HB.out))
                (case aF => exact (fun _ _ => trivial))
                (case aO => exact (by (with_reducible repeat (first | apply rA_ | apply rN_ | apply rD_));exact HO_331001.out))
                (case aS => exact (below_size (gB_ HB.out)))
                (case aL => have := LMc45.out;omega)
                intro v334 w48 ho hb hg hat
                rw [← Ny333.out] at ho
                have n0 := aM_ (blk_grown (g := gb317) (o := .cells #[.slice A0_0 l0_0.length c0_0] 57 (0,0)) (by (with_reducible repeat (first | refine bN_ ?_ _ | refine bD_ ?_ | refine bA_ ?_ _));exact BK317.out) hg (Kd.R_ne HO_331001.out BK317.out (by decide)))
                have n1 := aM_ (blk_grown (g := gb318) (o := .cells #[.int .i64 0,.slice none 0 0,.bool false] 94 (0,0)) (by (with_reducible repeat (first | refine bN_ ?_ _ | refine bD_ ?_ | refine bA_ ?_ _));exact BK318.out) hg (Kd.R_ne HO_331001.out BK318.out (by decide)))
                have n2 := aM_ (blk_grown (g := gb330) (o := .cells #[.int .i64 (rd l1 a2),u3311,.bool (t323 == 1)] 94 (0,0)) (by (with_reducible repeat (first | refine bN_ ?_ _ | refine bD_ ?_ | refine bA_ ?_ _));exact BK330.out) hg (Kd.R_ne HO_331001.out BK330.out (by decide)))
                have n3 := aM_ (hb)
                have n4 := aM_ (ho)
                clear BK317
                clear BK318
                clear BK330
                clear HB
                clear HO_331001
                have BK317 := n0
                have BK318 := n1
                have BK330 := n2
                have HB := n3
                have HO335 := n4
                clear n0 n1 n2 n3 n4
                clear ho hb hg hat
                obtain ⟨Ao49,co49,eo49⟩ := Kd.R_slice HO335.out
                (first | subst eo49 | (injection eo49 with f1_ f2_ f3_;have f4_ := f1_.symm;have f5_ := f3_.symm;clear f1_ f2_ f3_;subst f4_;subst f5_))
                refine hK.out _ _ ⟨(blk_cell BK330.out 0).trans rfl,(blk_cell BK330.out 1).trans rfl,(blk_cell BK330.out 2).trans rfl,(blk_cell BK317.out 0).trans rfl,(cB_ HB.out hw331_0 :)⟩ (fun hHeld => ?_)
                clear hK K
                refine norm_ (a' := ?_) ?_ ?_
                rotate_left
                ·show Act.put _ (some 88) _ = _
                 simp only [pt_,pn_,sI_,s0_,s1_,i64_w,i32_w]
                 rfl
                refine pU_ 17 (some 89) (mk_ 19 262143) ?_
                refine last_ (i := 18) (N := none) #[true,true,true,true,true,true,true,true,true,true,true,true,true,true,true,true,true,true,true] rfl rfl (one_of HT_.out (by kernel_rfl)) (by decide) (fun K hK => ?_)
                have hs50 : w48.cell? ⟨gb330,1,none⟩ = some (u3311) := (blk_cell BK330.out 1).trans rfl
                have hfs50 := blk_frozen BK330.out 1
                have hns50_0 := NB317_330.out
                have hns50_1 := NB318_330.out
                have hms50_0 := NB330_317.out
                have hms50_1 := NB330_318.out
                refine skip_ (w1 := ?_) (by rfl) rfl ?_ ?_
                rotate_left
                ·go_simp
                 rfl
                refine hK.out _ _ ?_
                clear hK K
                refine done_ (done_of HT_.out (by kernel_rfl)) ?_
                try go_wp2
                go_roundg k3
                case measure => have := HJ4.out;have := HJ18.out;have := HK3.out;omega
                case rel => exact ⟨(wrap64 (x13_3 + 1)),(y333),(.slice Ao49 y333.length co49),(by first | rfl | (simp;done) | (simp [*];done)),H',⟨by have := HJ4.out;have := HJ18.out;have := HK3.out;omega⟩,⟨by (with_reducible repeat (first | apply rA_ | apply rN_ | apply rD_));exact Kd.R_mono (Kd.R_far (p := ⟨gb330,1,none⟩) (Kd.R_types HO335.out BK330.out (by decide)) (fun _ hk => hk.2) (.slice Ao49 y333.length co49)) (fun _ hk => trivial)⟩,⟨by (with_reducible repeat (first | refine bN_ ?_ _ | refine bD_ ?_ | refine bA_ ?_ _));refine blk_far ?_ NB317_330.out _;(with_reducible repeat (first | refine bN_ ?_ _ | refine bD_ ?_ | refine bA_ ?_ _));exact BK317.out⟩,⟨by (with_reducible repeat (first | refine bN_ ?_ _ | refine bD_ ?_ | refine bA_ ?_ _));refine blk_far ?_ NB318_330.out _;(with_reducible repeat (first | refine bN_ ?_ _ | refine bD_ ?_ | refine bA_ ?_ _));exact BK318.out⟩,⟨by (with_reducible repeat (first | refine bN_ ?_ _ | refine bD_ ?_ | refine bA_ ?_ _));refine blk_put (cs := #[.int .i64 (rd l1 a2),u3311,.bool (t323 == 1)]) ?_ 1 _ rfl;(with_reducible repeat (first | refine bN_ ?_ _ | refine bD_ ?_ | refine bA_ ?_ _));exact BK330.out⟩,⟨gW_ HB.out⟩⟩
               ·rw [if_neg c45] at H
                exact absurd H (by simp)
             ·rw [if_neg c42] at H
              exact absurd H (by simp)
            ·rw [if_neg c41] at H
             exact absurd H (by simp)
           ·rw [if_neg c40] at H
            have c40b0 : decide (x13_3 < t322) = false := decide_eq_false c40
            clear c40
            simp only [Option.some.injEq,Prod.mk.injEq] at H
            obtain ⟨rfl,rfl,rfl,rfl⟩ := H
            have hnb51 := NB330_317.out
            have hnc51 := NB317_330.out
            have hnb52 := NB330_318.out
            have hnc52 := NB318_330.out
            obtain ⟨hcz53_0,hcz53_1,hcz53_2,hfz53_0,hfz53_1,hfz53_2⟩ := bR3_ BK330.out
            have hnb54 := NB318_317.out
            have hnc54 := NB317_318.out
            obtain ⟨hcz55_0,hcz55_1,hcz55_2,hfz55_0,hfz55_1,hfz55_2⟩ := bR3_ BK318.out
            obtain ⟨Ao56,co56,eo56⟩ := Kd.R_slice HO_331001.out
            subst eo56
            go_wp2
            refine bodyPost_ret (results_ct rfl _ _ gb318 94 #[.int .i64 (rd l1 a2),.slice Ao56 x3311_3.length co56,.bool (t323 == 1)] (0,0) _ rfl (by (with_reducible repeat (first | refine bN_ ?_ _ | refine bD_ ?_ | refine bA_ ?_ _));refine blk_put (cs := #[.int .i64 (rd l1 a2),.slice Ao56 x3311_3.length co56,.bool false]) ?_ 2 _ rfl;refine blk_put (cs := #[.int .i64 (rd l1 a2),.slice none 0 0,.bool false]) ?_ 1 _ rfl;refine blk_put (cs := #[.int .i64 0,.slice none 0 0,.bool false]) ?_ 0 _ rfl;exact rW_ BK318.out) Try.underlying94 rfl (by kernel_rfl)) rfl ?_
            exact ⟨_,fR_,by (with_reducible repeat (first | apply rA_ | apply rN_ | apply rD_));exact Kd.R_mono (Kd.R_far (p := ⟨gb318,2,none⟩) (Kd.R_far (p := ⟨gb318,1,none⟩) (Kd.R_far (p := ⟨gb318,0,none⟩) (Kd.R_types HO_331001.out BK318.out (by decide)) (fun _ hk => hk.2) (.int .i64 (rd l1 a2))) (fun _ hk => hk.2) (.slice Ao56 x3311_3.length co56)) (fun _ hk => hk.2) (.bool (t323 == 1))) (fun _ hk => trivial),gB_ HB.out⟩
        ·rw [if_neg c35] at H
         exact absurd H (by simp)
       ·rw [if_neg c34] at H
        exact absurd H (by simp)
end Go.Proofs.Ytobachfngmpeiaa.PFnExactChanSame
