/- Part of the proof of FnExactAble. -/
import Derived.Test.YtobachfngmpeiaaZFnExactAblea20
import Derived.Test.YtobachfngmpeiaaZFnExactAbles
namespace Go.Proofs.Ytobachfngmpeiaa.PFnExactAble
open Go.RowKit Go.Proofs.YtobachfngmpeiaaW.PrintWords Go.Proofs.YtobachfngmpeiaaW.PrintLast Go.Proofs.YtobachfngmpeiaaW.PrintMore
attribute [local go_sem] max2_int min2_int max_two min_two max_three min_three max_four min_four   -- for this text's walks alone
set_option linter.unusedVariables false
set_option linter.unusedSimpArgs false
attribute [local go_sem high] eqA192
mutual
def impl_InsOk.j0 : Nat → Int → Int → Bool → Int → Int → Int → Int → Int → Option (Bool)
  | 0,_,_,_,_,_,_,_,_ => none
  | k + 1,x1,x2,x39,x396000,x396001,x396002,x396003,x396004 => if x39 = true then (some false) else (if x396000 = 1 then ((impl_within.f x396004 (-1000000000) 1000000000).bind fun t406 => (some t406)) else (if x396000 = 11 then (impl_InsOk.j1 k x1 x2 true x396000 x396001 x396002 x396003 x396004) else (impl_InsOk.j1 k x1 x2 (x396000 == 12) x396000 x396001 x396002 x396003 x396004)))
def impl_InsOk.j1 : Nat → Int → Int → Bool → Int → Int → Int → Int → Int → Option (Bool)
  | 0,_,_,_,_,_,_,_,_ => none
  | k + 1,x1,x2,x47,x396000,x396001,x396002,x396003,x396004 => if x47 = true then ((impl_within.f x396004 0 (wrap64 (x1 - 1))).bind fun t407 => (some t407)) else (if x396000 = 6 then (impl_InsOk.j2 k x2 (x396001 == x396003) x396000 x396001 x396002 x396003 x396004) else (if x396000 = 8 then (impl_InsOk.j2 k x2 (x396001 == x396003) x396000 x396001 x396002 x396003 x396004) else (impl_InsOk.j2 k x2 false x396000 x396001 x396002 x396003 x396004)))
def impl_InsOk.j2 : Nat → Int → Bool → Int → Int → Int → Int → Int → Option (Bool)
  | 0,_,_,_,_,_,_,_ => none
  | k + 1,x2,x61,x396000,x396001,x396002,x396003,x396004 => if x61 = true then (some false) else ((impl_ofChan.f x396000).bind fun t408 => (if t408 = true then ((impl_within.f x396004 0 (wrap64 (x2 - 1))).bind fun t409 => (some t409)) else (some true)))
end
def impl_InsOk.f (k : Nat) (a0_0 : Int) (a0_1 : Int) (a0_2 : Int) (a0_3 : Int) (a0_4 : Int) (a1 : Int) (a2 : Int) : Option (Bool) := (impl_within.f a2 0 3).bind fun t396 => (if t396 = true then ((impl_within.f a0_0 1 13).bind fun t397 => (if t397 = true then ((impl_named.f k a0_0 a0_1 a0_2 a0_3 a0_4).bind fun bt398 => (if (!(a0_0 == bt398.1) || (!(a0_1 == bt398.2.1) || (!(a0_2 == bt398.2.2.1) || (!(a0_3 == bt398.2.2.2.1) || (!(a0_4 == bt398.2.2.2.2)))))) = true then (impl_InsOk.j0 k a1 a2 true a0_0 a0_1 a0_2 a0_3 a0_4) else ((impl_isReg.f a0_1).bind fun t403 => (if t403 = true then ((impl_isReg.f a0_2).bind fun t404 => (if t404 = true then ((impl_isReg.f a0_3).bind fun t405 => (impl_InsOk.j0 k a1 a2 (!t405) a0_0 a0_1 a0_2 a0_3 a0_4)) else (impl_InsOk.j0 k a1 a2 true a0_0 a0_1 a0_2 a0_3 a0_4))) else (impl_InsOk.j0 k a1 a2 true a0_0 a0_1 a0_2 a0_3 a0_4))))) else (impl_InsOk.j0 k a1 a2 true a0_0 a0_1 a0_2 a0_3 a0_4))) else (impl_InsOk.j0 k a1 a2 true a0_0 a0_1 a0_2 a0_3 a0_4))
def impl_InsOk.T1 : Bool × List (List Nat × List Nat) := (true,[([],[]),([0],[0]),([1],[1]),([2,1],[2]),([3],[3]),([4,3],[3,4]),([5,3,3],[3,5]),([6,3],[3,6]),([3,7],[3,7]),([8,6],[8]),([9],[9]),([9],[9]),([11,9,9],[9,11]),([10,12,9],[9,10,12]),([9,13],[9,13]),([14,12],[14]),([15],[15]),([16,15],[15,16]),([17,15,15],[15,17]),([18,15],[15,18]),([15,19],[15,19]),([20,18],[20]),([21],[21]),([22,21],[21,22]),([23,21,21],[21,23]),([24,21],[21,24]),([21,25],[21,25]),([26,24],[26]),([27],[27]),([28,27],[27,28]),([29,27,27],[27,29]),([30,27],[27,30]),([27,31],[27,31])])
def impl_InsOk.B1 : List Nat := [0,1,3,7,15,31,63,127,255,511,1023,1023,3071,8191,16383,32767,65535,131071,262143,524287,1048575,2097151,4194303,8388607,16777215,33554431,67108863,134217727,268435455,536870911,1073741823,2147483647,4294967295]
theorem impl_InsOk.tab1 : rtab .any (opsOf Try.f164 1) = impl_InsOk.T1 := by kernel_rfl
theorem impl_InsOk.bits1 : waitsOk impl_InsOk.T1.2 impl_InsOk.B1 = true := by kernel_rfl
set_option maxHeartbeats 8000000 in
set_option maxRecDepth 100000 in
theorem impl_InsOk.calls (k : Nat) (a0_0 : Int) (a0_1 : Int) (a0_2 : Int) (a0_3 : Int) (a0_4 : Int) (a1 : Int) (a2 : Int) (r : Bool) (w : World) (h : impl_InsOk.f k a0_0 a0_1 a0_2 a0_3 a0_4 a1 a2 = some r) :
  Calls Try.prog 164 #[.agg #[.int .i64 a0_0,.int .i64 a0_1,.int .i64 a0_2,.int .i64 a0_3,.int .i64 a0_4],.int .i64 a1,.int .i64 a2] w fun e w' => e = .returned (.bool r) ∧ Below w.heap.size w w' := by
 have hu192 := Try.underlying192
 have HB := aM_ (Below.refl w.heap.size w)
 have H : ((impl_within.f a2 0 3).bind fun t396 => (if t396 = true then ((impl_within.f a0_0 1 13).bind fun t397 => (if t397 = true then ((impl_named.f k a0_0 a0_1 a0_2 a0_3 a0_4).bind fun bt398 => (if (!(a0_0 == bt398.1) || (!(a0_1 == bt398.2.1) || (!(a0_2 == bt398.2.2.1) || (!(a0_3 == bt398.2.2.2.1) || (!(a0_4 == bt398.2.2.2.2)))))) = true then (impl_InsOk.j0 k a1 a2 true a0_0 a0_1 a0_2 a0_3 a0_4) else ((impl_isReg.f a0_1).bind fun t403 => (if t403 = true then ((impl_isReg.f a0_2).bind fun t404 => (if t404 = true then ((impl_isReg.f a0_3).bind fun t405 => (impl_InsOk.j0 k a1 a2 (!t405) a0_0 a0_1 a0_2 a0_3 a0_4)) else (impl_InsOk.j0 k a1 a2 true a0_0 a0_1 a0_2 a0_3 a0_4))) else (impl_InsOk.j0 k a1 a2 true a0_0 a0_1 a0_2 a0_3 a0_4))))) else (impl_InsOk.j0 k a1 a2 true a0_0 a0_1 a0_2 a0_3 a0_4))) else (impl_InsOk.j0 k a1 a2 true a0_0 a0_1 a0_2 a0_3 a0_4))) = some r := h
 clear h
 have HC4 := aM_ H
 clear H
 go_enter Try.func164,Try.ntmps164
 go_upto_region 1 with (first | (refine bX_ 3 (cs := #[.int .i64 a0_0,.int .i64 a0_1,.int .i64 a0_2,.int .i64 a0_3,.int .i64 a0_4]) (t := 192) ?_;intro gb395 hg w5 hbox hb;have BK395 := aM_ (hbox);have GE395 := aM_ (sZ_ hg HB.out);replace HB := aM_ (sT_ HB.out hb);clear hb hbox hg))
 (try simp only [Act.put,List.setIfInBounds_toArray,List.set_cons_zero,List.set_cons_succ])
 go_cut [39] (fun v39 wc => ∃ (kq : Nat) (x39_3 : Bool),v39 = .bool x39_3 ∧ Aside0 (impl_InsOk.j0 kq a1 a2 x39_3 a0_0 a0_1 a0_2 a0_3 a0_4 = some r) ∧ Aside0 (kq ≤ k) ∧ Aside0 (wc.heap[gb395]? = some (.cells #[.int .i64 a0_0,.int .i64 a0_1,.int .i64 a0_2,.int .i64 a0_3,.int .i64 a0_4] 192 (0,0))) ∧ Aside0 (Below w.heap.size w wc))
 case first =>
  have H := HC4.out
  clear HC4
  replace H := Option.bind_eq_some_iff.mp H
  obtain ⟨t396,A60,H⟩ := H
  replace H : (if t396 = true then ((impl_within.f a0_0 1 13).bind fun t397 => (if t397 = true then ((impl_named.f k a0_0 a0_1 a0_2 a0_3 a0_4).bind fun bt398 => (if (!(a0_0 == bt398.1) || (!(a0_1 == bt398.2.1) || (!(a0_2 == bt398.2.2.1) || (!(a0_3 == bt398.2.2.2.1) || (!(a0_4 == bt398.2.2.2.2)))))) = true then (impl_InsOk.j0 k a1 a2 true a0_0 a0_1 a0_2 a0_3 a0_4) else ((impl_isReg.f a0_1).bind fun t403 => (if t403 = true then ((impl_isReg.f a0_2).bind fun t404 => (if t404 = true then ((impl_isReg.f a0_3).bind fun t405 => (impl_InsOk.j0 k a1 a2 (!t405) a0_0 a0_1 a0_2 a0_3 a0_4)) else (impl_InsOk.j0 k a1 a2 true a0_0 a0_1 a0_2 a0_3 a0_4))) else (impl_InsOk.j0 k a1 a2 true a0_0 a0_1 a0_2 a0_3 a0_4))))) else (impl_InsOk.j0 k a1 a2 true a0_0 a0_1 a0_2 a0_3 a0_4))) else (impl_InsOk.j0 k a1 a2 true a0_0 a0_1 a0_2 a0_3 a0_4)) = some r := H
  have A6 := aM_ A60
  clear A60
  by_cases c7 : t396 = true
  ·subst c7
   have H1 : ((impl_within.f a0_0 1 13).bind fun t397 => (if t397 = true then ((impl_named.f k a0_0 a0_1 a0_2 a0_3 a0_4).bind fun bt398 => (if (!(a0_0 == bt398.1) || (!(a0_1 == bt398.2.1) || (!(a0_2 == bt398.2.2.1) || (!(a0_3 == bt398.2.2.2.1) || (!(a0_4 == bt398.2.2.2.2)))))) = true then (impl_InsOk.j0 k a1 a2 true a0_0 a0_1 a0_2 a0_3 a0_4) else ((impl_isReg.f a0_1).bind fun t403 => (if t403 = true then ((impl_isReg.f a0_2).bind fun t404 => (if t404 = true then ((impl_isReg.f a0_3).bind fun t405 => (impl_InsOk.j0 k a1 a2 (!t405) a0_0 a0_1 a0_2 a0_3 a0_4)) else (impl_InsOk.j0 k a1 a2 true a0_0 a0_1 a0_2 a0_3 a0_4))) else (impl_InsOk.j0 k a1 a2 true a0_0 a0_1 a0_2 a0_3 a0_4))))) else (impl_InsOk.j0 k a1 a2 true a0_0 a0_1 a0_2 a0_3 a0_4))) = some r := by rw [if_pos rfl] at H;exact H
   clear H
   have H := H1
   clear H1
   replace H := Option.bind_eq_some_iff.mp H
   obtain ⟨t397,A80,H⟩ := H
   replace H : (if t397 = true then ((impl_named.f k a0_0 a0_1 a0_2 a0_3 a0_4).bind fun bt398 => (if (!(a0_0 == bt398.1) || (!(a0_1 == bt398.2.1) || (!(a0_2 == bt398.2.2.1) || (!(a0_3 == bt398.2.2.2.1) || (!(a0_4 == bt398.2.2.2.2)))))) = true then (impl_InsOk.j0 k a1 a2 true a0_0 a0_1 a0_2 a0_3 a0_4) else ((impl_isReg.f a0_1).bind fun t403 => (if t403 = true then ((impl_isReg.f a0_2).bind fun t404 => (if t404 = true then ((impl_isReg.f a0_3).bind fun t405 => (impl_InsOk.j0 k a1 a2 (!t405) a0_0 a0_1 a0_2 a0_3 a0_4)) else (impl_InsOk.j0 k a1 a2 true a0_0 a0_1 a0_2 a0_3 a0_4))) else (impl_InsOk.j0 k a1 a2 true a0_0 a0_1 a0_2 a0_3 a0_4))))) else (impl_InsOk.j0 k a1 a2 true a0_0 a0_1 a0_2 a0_3 a0_4)) = some r := H
   have A8 := aM_ A80
   clear A80
   by_cases c9 : t397 = true
   ·subst c9
    have H1 : ((impl_named.f k a0_0 a0_1 a0_2 a0_3 a0_4).bind fun bt398 => (if (!(a0_0 == bt398.1) || (!(a0_1 == bt398.2.1) || (!(a0_2 == bt398.2.2.1) || (!(a0_3 == bt398.2.2.2.1) || (!(a0_4 == bt398.2.2.2.2)))))) = true then (impl_InsOk.j0 k a1 a2 true a0_0 a0_1 a0_2 a0_3 a0_4) else ((impl_isReg.f a0_1).bind fun t403 => (if t403 = true then ((impl_isReg.f a0_2).bind fun t404 => (if t404 = true then ((impl_isReg.f a0_3).bind fun t405 => (impl_InsOk.j0 k a1 a2 (!t405) a0_0 a0_1 a0_2 a0_3 a0_4)) else (impl_InsOk.j0 k a1 a2 true a0_0 a0_1 a0_2 a0_3 a0_4))) else (impl_InsOk.j0 k a1 a2 true a0_0 a0_1 a0_2 a0_3 a0_4))))) = some r := by rw [if_pos rfl] at H;exact H
    clear H
    have H := H1
    clear H1
    replace H := Option.bind_eq_some_iff.mp H
    obtain ⟨⟨t398,t399,t400,t401,t402⟩,A100,H⟩ := H
    replace H : (if (!(a0_0 == t398) || (!(a0_1 == t399) || (!(a0_2 == t400) || (!(a0_3 == t401) || (!(a0_4 == t402)))))) = true then (impl_InsOk.j0 k a1 a2 true a0_0 a0_1 a0_2 a0_3 a0_4) else ((impl_isReg.f a0_1).bind fun t403 => (if t403 = true then ((impl_isReg.f a0_2).bind fun t404 => (if t404 = true then ((impl_isReg.f a0_3).bind fun t405 => (impl_InsOk.j0 k a1 a2 (!t405) a0_0 a0_1 a0_2 a0_3 a0_4)) else (impl_InsOk.j0 k a1 a2 true a0_0 a0_1 a0_2 a0_3 a0_4))) else (impl_InsOk.j0 k a1 a2 true a0_0 a0_1 a0_2 a0_3 a0_4)))) = some r := H
    have A10 := aM_ A100
    clear A100
    by_cases c11 : (!(a0_0 == t398) || (!(a0_1 == t399) || (!(a0_2 == t400) || (!(a0_3 == t401) || (!(a0_4 == t402)))))) = true
    ·rw [if_pos c11] at H
     have c11b0 : (!(a0_0 == t398) || (!(a0_1 == t399) || (!(a0_2 == t400) || (!(a0_3 == t401) || (!(a0_4 == t402)))))) = true := c11
     clear c11
     (first | rw [c11b0] | (simp only [i64_w,i32_w];rw [c11b0]) | skip)
     have H' := aM_ H
     clear H
     try go_wp2
     replace BK395 := aM_ (blk_drew BK395.out)
     replace HB := aM_ (below_drew1 HB.out)
     refine sTa_ 33 (fun w' => K_ w' gb395 0 (.int .i64 a0_0) ∧ K_ w' gb395 1 (.int .i64 a0_1) ∧ K_ w' gb395 2 (.int .i64 a0_2) ∧ K_ w' gb395 3 (.int .i64 a0_3) ∧ K_ w' gb395 4 (.int .i64 a0_4)) [] (bC5_ BK395.out) (fun hHeld => ?_);refine with_tabW impl_InsOk.tab1 impl_InsOk.bits1 (fun HT_ HW_ => ?_)
     generalize w5.drew = w12 at BK395 HB hHeld ⊢
     refine jU_ 0 7 33 1 ?_
     refine jN_ 1 8 33 3 (fun K hK => ?_)
     refine gO_ Try.func106 #[.int .i64 a2,.int .i64 0,.int .i64 3] ?_
     with_reducible refine (impl_within.calls a2 0 3 true _ A6.out).mono ?_
     rintro e w' ⟨rfl,⟨nd,rfl⟩⟩
     refine ⟨_,rfl,?_⟩
     refine kO_ hK (some 8) (bC5_ BK395.out) (fun hHeld => ?_)
     clear hK K
     refine jU_ 2 9 33 7 ?_
     refine jU_ 3 10 33 15 ?_
     refine jU_ 4 11 33 31 ?_
     refine jK5_ 5 12 33 63 ?_
     refine jN_ 6 13 33 127 (fun K hK => ?_)
     refine gO_ Try.func106 #[.int .i64 a0_0,.int .i64 1,.int .i64 13] ?_
     with_reducible refine (impl_within.calls a0_0 1 13 true _ A8.out).mono ?_
     rintro e w' ⟨rfl,⟨nd,rfl⟩⟩
     refine ⟨_,rfl,?_⟩
     refine kO_ hK (some 13) (bC5_ BK395.out) (fun hHeld => ?_)
     clear hK K
     refine jU_ 7 14 33 255 ?_
     refine jU_ 8 15 33 511 ?_
     refine jU_ 9 16 33 1023 ?_
     refine jK5_ 10 17 33 2047 ?_
     refine jK5_ 11 18 33 4095 ?_
     refine jN_ 12 19 33 8191 (fun K hK => ?_)
     refine gO_ Try.func183 #[.agg #[.int .i64 a0_0,.int .i64 a0_1,.int .i64 a0_2,.int .i64 a0_3,.int .i64 a0_4]] ?_
     with_reducible refine (impl_named.calls k a0_0 a0_1 a0_2 a0_3 a0_4 t398 t399 t400 t401 t402 _ A10.out).mono ?_
     rintro e w13 ⟨rfl,hb⟩
     refine ⟨_,rfl,?_⟩
     replace BK395 := aM_ (nB_ BK395.out hb)
     replace HB := aM_ (sT_ HB.out hb)
     (try clear hb)
     (try clear hb2)
     (try clear hk)
     (try clear hi)
     refine kO_ hK (some 19) (bC5_ BK395.out) (fun hHeld => ?_)
     clear hK K
     refine jU_ 13 20 33 16383 ?_
     refine jU_ 14 21 33 32767 ?_
     refine jU_ 15 22 33 65535 ?_
     refine jX_ 16 23 33 131071 ?_
     refine jX_ 17 24 33 262143 ?_
     refine jX_ 18 25 33 524287 ?_
     refine jX_ 19 26 33 1048575 ?_
     refine jU_ 20 27 33 2097151 ?_
     refine jU_ 21 28 33 4194303 ?_
     refine jX_ 22 29 33 8388607 ?_
     refine jX_ 23 30 33 16777215 ?_
     refine jX_ 24 31 33 33554431 ?_
     refine jX_ 25 32 33 67108863 ?_
     refine jU_ 26 33 33 134217727 ?_
     refine jU_ 27 34 33 268435455 ?_
     refine jX_ 28 35 33 536870911 ?_
     refine jX_ 29 36 33 1073741823 ?_
     refine jX_ 30 37 33 2147483647 ?_
     refine jX_ 31 38 33 4294967295 ?_
     refine jU_ 32 39 33 8589934591 ?_
     refine done_ (done_of HT_.out (by kernel_rfl)) ?_
     try go_wp2
     go_meet
     case rel => exact ⟨_,(true),(by first | rfl | (simp;done) | (simp [*];done)),H',⟨by first | omega | exact Nat.le_refl _⟩,⟨rW_ BK395.out⟩,⟨gW_ HB.out⟩⟩
    ·rw [if_neg c11] at H
     have c11b0 : (!(a0_0 == t398) || (!(a0_1 == t399) || (!(a0_2 == t400) || (!(a0_3 == t401) || (!(a0_4 == t402)))))) = false := by simpa using c11
     clear c11
     (first | rw [c11b0] | (simp only [i64_w,i32_w];rw [c11b0]) | skip)
     replace H := Option.bind_eq_some_iff.mp H
     obtain ⟨t403,A140,H⟩ := H
     replace H : (if t403 = true then ((impl_isReg.f a0_2).bind fun t404 => (if t404 = true then ((impl_isReg.f a0_3).bind fun t405 => (impl_InsOk.j0 k a1 a2 (!t405) a0_0 a0_1 a0_2 a0_3 a0_4)) else (impl_InsOk.j0 k a1 a2 true a0_0 a0_1 a0_2 a0_3 a0_4))) else (impl_InsOk.j0 k a1 a2 true a0_0 a0_1 a0_2 a0_3 a0_4)) = some r := H
     have A14 := aM_ A140
     clear A140
     by_cases c15 : t403 = true
     ·subst c15
      have H1 : ((impl_isReg.f a0_2).bind fun t404 => (if t404 = true then ((impl_isReg.f a0_3).bind fun t405 => (impl_InsOk.j0 k a1 a2 (!t405) a0_0 a0_1 a0_2 a0_3 a0_4)) else (impl_InsOk.j0 k a1 a2 true a0_0 a0_1 a0_2 a0_3 a0_4))) = some r := by rw [if_pos rfl] at H;exact H
      clear H
      have H := H1
      clear H1
      replace H := Option.bind_eq_some_iff.mp H
      obtain ⟨t404,A160,H⟩ := H
      replace H : (if t404 = true then ((impl_isReg.f a0_3).bind fun t405 => (impl_InsOk.j0 k a1 a2 (!t405) a0_0 a0_1 a0_2 a0_3 a0_4)) else (impl_InsOk.j0 k a1 a2 true a0_0 a0_1 a0_2 a0_3 a0_4)) = some r := H
      have A16 := aM_ A160
      clear A160
      by_cases c17 : t404 = true
      ·subst c17
       have H1 : ((impl_isReg.f a0_3).bind fun t405 => (impl_InsOk.j0 k a1 a2 (!t405) a0_0 a0_1 a0_2 a0_3 a0_4)) = some r := by rw [if_pos rfl] at H;exact H
       clear H
       have H := H1
       clear H1
       replace H := Option.bind_eq_some_iff.mp H
       obtain ⟨t405,A180,H⟩ := H
       replace H : (impl_InsOk.j0 k a1 a2 (!t405) a0_0 a0_1 a0_2 a0_3 a0_4) = some r := H
       have A18 := aM_ A180
       clear A180
       have H' := aM_ H
       clear H
       try go_wp2
       replace BK395 := aM_ (blk_drew BK395.out)
       replace HB := aM_ (below_drew1 HB.out)
       refine sTa_ 33 (fun w' => K_ w' gb395 0 (.int .i64 a0_0) ∧ K_ w' gb395 1 (.int .i64 a0_1) ∧ K_ w' gb395 2 (.int .i64 a0_2) ∧ K_ w' gb395 3 (.int .i64 a0_3) ∧ K_ w' gb395 4 (.int .i64 a0_4)) [] (bC5_ BK395.out) (fun hHeld => ?_);refine with_tabW impl_InsOk.tab1 impl_InsOk.bits1 (fun HT_ HW_ => ?_)
       generalize w5.drew = w19 at BK395 HB hHeld ⊢
       refine jU_ 0 7 33 1 ?_
       refine jN_ 1 8 33 3 (fun K hK => ?_)
       refine gO_ Try.func106 #[.int .i64 a2,.int .i64 0,.int .i64 3] ?_
       with_reducible refine (impl_within.calls a2 0 3 true _ A6.out).mono ?_
       rintro e w' ⟨rfl,⟨nd,rfl⟩⟩
       refine ⟨_,rfl,?_⟩
       refine kO_ hK (some 8) (bC5_ BK395.out) (fun hHeld => ?_)
       clear hK K
       refine jU_ 2 9 33 7 ?_
       refine jU_ 3 10 33 15 ?_
       refine jU_ 4 11 33 31 ?_
       refine jK5_ 5 12 33 63 ?_
       refine jN_ 6 13 33 127 (fun K hK => ?_)
       refine gO_ Try.func106 #[.int .i64 a0_0,.int .i64 1,.int .i64 13] ?_
       with_reducible refine (impl_within.calls a0_0 1 13 true _ A8.out).mono ?_
       rintro e w' ⟨rfl,⟨nd,rfl⟩⟩
       refine ⟨_,rfl,?_⟩
       refine kO_ hK (some 13) (bC5_ BK395.out) (fun hHeld => ?_)
       clear hK K
       refine jU_ 7 14 33 255 ?_
       refine jU_ 8 15 33 511 ?_
       refine jU_ 9 16 33 1023 ?_
       refine jK5_ 10 17 33 2047 ?_
       refine jK5_ 11 18 33 4095 ?_
       refine jN_ 12 19 33 8191 (fun K hK => ?_)
       refine gO_ Try.func183 #[.agg #[.int .i64 a0_0,.int .i64 a0_1,.int .i64 a0_2,.int .i64 a0_3,.int .i64 a0_4]] ?_
       with_reducible refine (impl_named.calls k a0_0 a0_1 a0_2 a0_3 a0_4 t398 t399 t400 t401 t402 _ A10.out).mono ?_
       rintro e w20 ⟨rfl,hb⟩
       refine ⟨_,rfl,?_⟩
       replace BK395 := aM_ (nB_ BK395.out hb)
       replace HB := aM_ (sT_ HB.out hb)
       (try clear hb)
       (try clear hb2)
       (try clear hk)
       (try clear hi)
       refine kO_ hK (some 19) (bC5_ BK395.out) (fun hHeld => ?_)
       clear hK K
       refine jU_ 13 20 33 16383 ?_
       refine jU_ 14 21 33 32767 ?_
       refine jU_ 15 22 33 65535 ?_
       refine jU_ 16 23 33 131071 ?_
       refine jK5_ 17 24 33 262143 ?_
       refine jN_ 18 25 33 524287 (fun K hK => ?_)
       refine gO_ Try.func184 #[.int .i64 a0_1] ?_
       with_reducible refine (impl_isReg.calls a0_1 true _ A14.out).mono ?_
       rintro e w' ⟨rfl,⟨nd,rfl⟩⟩
       refine ⟨_,rfl,?_⟩
       refine kO_ hK (some 25) (bC5_ BK395.out) (fun hHeld => ?_)
       clear hK K
       refine jU_ 19 26 33 1048575 ?_
       refine jU_ 20 27 33 2097151 ?_
       refine jU_ 21 28 33 4194303 ?_
       refine jU_ 22 29 33 8388607 ?_
       refine jK5_ 23 30 33 16777215 ?_
       refine jN_ 24 31 33 33554431 (fun K hK => ?_)
       refine gO_ Try.func184 #[.int .i64 a0_2] ?_
       with_reducible refine (impl_isReg.calls a0_2 true _ A16.out).mono ?_
       rintro e w' ⟨rfl,⟨nd,rfl⟩⟩
       refine ⟨_,rfl,?_⟩
       refine kO_ hK (some 31) (bC5_ BK395.out) (fun hHeld => ?_)
       clear hK K
       refine jU_ 25 32 33 67108863 ?_
       refine jU_ 26 33 33 134217727 ?_
       refine jU_ 27 34 33 268435455 ?_
       refine jU_ 28 35 33 536870911 ?_
       refine jK5_ 29 36 33 1073741823 ?_
       refine jN_ 30 37 33 2147483647 (fun K hK => ?_)
       refine gO_ Try.func184 #[.int .i64 a0_3] ?_
       with_reducible refine (impl_isReg.calls a0_3 t405 _ A18.out).mono ?_
       rintro e w' ⟨rfl,⟨nd,rfl⟩⟩
       refine ⟨_,rfl,?_⟩
       refine kO_ hK (some 37) (bC5_ BK395.out) (fun hHeld => ?_)
       clear hK K
       refine jU_ 31 38 33 4294967295 ?_
       refine jU_ 32 39 33 8589934591 ?_
       refine done_ (done_of HT_.out (by kernel_rfl)) ?_
       try go_wp2
       go_meet
       case rel => exact ⟨_,(!t405),(by first | rfl | (simp;done) | (simp [*];done)),H',⟨by first | omega | exact Nat.le_refl _⟩,⟨rW_ BK395.out⟩,⟨gW_ HB.out⟩⟩
      ·replace c17 := Bool.eq_false_iff.mpr c17
       subst c17
       have H1 : (impl_InsOk.j0 k a1 a2 true a0_0 a0_1 a0_2 a0_3 a0_4) = some r := by rw [if_neg (show ¬ (false = true) by decide)] at H;exact H
       clear H
       have H := H1
       clear H1
       have H' := aM_ H
       clear H
       try go_wp2
       replace BK395 := aM_ (blk_drew BK395.out)
       replace HB := aM_ (below_drew1 HB.out)
       refine sTa_ 33 (fun w' => K_ w' gb395 0 (.int .i64 a0_0) ∧ K_ w' gb395 1 (.int .i64 a0_1) ∧ K_ w' gb395 2 (.int .i64 a0_2) ∧ K_ w' gb395 3 (.int .i64 a0_3) ∧ K_ w' gb395 4 (.int .i64 a0_4)) [] (bC5_ BK395.out) (fun hHeld => ?_);refine with_tabW impl_InsOk.tab1 impl_InsOk.bits1 (fun HT_ HW_ => ?_)
       generalize w5.drew = w21 at BK395 HB hHeld ⊢
       refine jU_ 0 7 33 1 ?_
       refine jN_ 1 8 33 3 (fun K hK => ?_)
       refine gO_ Try.func106 #[.int .i64 a2,.int .i64 0,.int .i64 3] ?_
       with_reducible refine (impl_within.calls a2 0 3 true _ A6.out).mono ?_
       rintro e w' ⟨rfl,⟨nd,rfl⟩⟩
       refine ⟨_,rfl,?_⟩
       refine kO_ hK (some 8) (bC5_ BK395.out) (fun hHeld => ?_)
       clear hK K
       refine jU_ 2 9 33 7 ?_
       refine jU_ 3 10 33 15 ?_
       refine jU_ 4 11 33 31 ?_
       refine jK5_ 5 12 33 63 ?_
       refine jN_ 6 13 33 127 (fun K hK => ?_)
       refine gO_ Try.func106 #[.int .i64 a0_0,.int .i64 1,.int .i64 13] ?_
       with_reducible refine (impl_within.calls a0_0 1 13 true _ A8.out).mono ?_
       rintro e w' ⟨rfl,⟨nd,rfl⟩⟩
       refine ⟨_,rfl,?_⟩
       refine kO_ hK (some 13) (bC5_ BK395.out) (fun hHeld => ?_)
       clear hK K
       refine jU_ 7 14 33 255 ?_
       refine jU_ 8 15 33 511 ?_
       refine jU_ 9 16 33 1023 ?_
       refine jK5_ 10 17 33 2047 ?_
       refine jK5_ 11 18 33 4095 ?_
       refine jN_ 12 19 33 8191 (fun K hK => ?_)
       refine gO_ Try.func183 #[.agg #[.int .i64 a0_0,.int .i64 a0_1,.int .i64 a0_2,.int .i64 a0_3,.int .i64 a0_4]] ?_
       with_reducible refine (impl_named.calls k a0_0 a0_1 a0_2 a0_3 a0_4 t398 t399 t400 t401 t402 _ A10.out).mono ?_
       rintro e w22 ⟨rfl,hb⟩
       refine ⟨_,rfl,?_⟩
       replace BK395 := aM_ (nB_ BK395.out hb)
       replace HB := aM_ (sT_ HB.out hb)
       (try clear hb)
       (try clear hb2)
       (try clear hk)
       (try clear hi)
       refine kO_ hK (some 19) (bC5_ BK395.out) (fun hHeld => ?_)
       clear hK K
       refine jU_ 13 20 33 16383 ?_
       refine jU_ 14 21 33 32767 ?_
       refine jU_ 15 22 33 65535 ?_
       refine jU_ 16 23 33 131071 ?_
       refine jK5_ 17 24 33 262143 ?_
       refine jN_ 18 25 33 524287 (fun K hK => ?_)
       refine gO_ Try.func184 #[.int .i64 a0_1] ?_
       with_reducible refine (impl_isReg.calls a0_1 true _ A14.out).mono ?_
       rintro e w' ⟨rfl,⟨nd,rfl⟩⟩
       refine ⟨_,rfl,?_⟩
       refine kO_ hK (some 25) (bC5_ BK395.out) (fun hHeld => ?_)
       clear hK K
       refine jU_ 19 26 33 1048575 ?_
       refine jU_ 20 27 33 2097151 ?_
       refine jU_ 21 28 33 4194303 ?_
       refine jU_ 22 29 33 8388607 ?_
       refine jK5_ 23 30 33 16777215 ?_
       refine jN_ 24 31 33 33554431 (fun K hK => ?_)
       refine gO_ Try.func184 #[.int .i64 a0_2] ?_
       with_reducible refine (impl_isReg.calls a0_2 false _ A16.out).mono ?_
       rintro e w' ⟨rfl,⟨nd,rfl⟩⟩
       refine ⟨_,rfl,?_⟩
       refine kO_ hK (some 31) (bC5_ BK395.out) (fun hHeld => ?_)
       clear hK K
       refine jU_ 25 32 33 67108863 ?_
       refine jU_ 26 33 33 134217727 ?_
       refine jU_ 27 34 33 268435455 ?_
       refine jX_ 28 35 33 536870911 ?_
       refine jX_ 29 36 33 1073741823 ?_
       refine jX_ 30 37 33 2147483647 ?_
       refine jX_ 31 38 33 4294967295 ?_
       refine jU_ 32 39 33 8589934591 ?_
       refine done_ (done_of HT_.out (by kernel_rfl)) ?_
       try go_wp2
       go_meet
       case rel => exact ⟨_,(true),(by first | rfl | (simp;done) | (simp [*];done)),H',⟨by first | omega | exact Nat.le_refl _⟩,⟨rW_ BK395.out⟩,⟨gW_ HB.out⟩⟩
     ·replace c15 := Bool.eq_false_iff.mpr c15
      subst c15
      have H1 : (impl_InsOk.j0 k a1 a2 true a0_0 a0_1 a0_2 a0_3 a0_4) = some r := by rw [if_neg (show ¬ (false = true) by decide)] at H;exact H
      clear H
      have H := H1
      clear H1
      have H' := aM_ H
      clear H
      try go_wp2
      replace BK395 := aM_ (blk_drew BK395.out)
      replace HB := aM_ (below_drew1 HB.out)
      refine sTa_ 33 (fun w' => K_ w' gb395 0 (.int .i64 a0_0) ∧ K_ w' gb395 1 (.int .i64 a0_1) ∧ K_ w' gb395 2 (.int .i64 a0_2) ∧ K_ w' gb395 3 (.int .i64 a0_3) ∧ K_ w' gb395 4 (.int .i64 a0_4)) [] (bC5_ BK395.out) (fun hHeld => ?_);refine with_tabW impl_InsOk.tab1 impl_InsOk.bits1 (fun HT_ HW_ => ?_)
      generalize w5.drew = w23 at BK395 HB hHeld ⊢
      refine jU_ 0 7 33 1 ?_
      refine jN_ 1 8 33 3 (fun K hK => ?_)
      refine gO_ Try.func106 #[.int .i64 a2,.int .i64 0,.int .i64 3] ?_
      with_reducible refine (impl_within.calls a2 0 3 true _ A6.out).mono ?_
      rintro e w' ⟨rfl,⟨nd,rfl⟩⟩
      refine ⟨_,rfl,?_⟩
      refine kO_ hK (some 8) (bC5_ BK395.out) (fun hHeld => ?_)
      clear hK K
      refine jU_ 2 9 33 7 ?_
      refine jU_ 3 10 33 15 ?_
      refine jU_ 4 11 33 31 ?_
      refine jK5_ 5 12 33 63 ?_
      refine jN_ 6 13 33 127 (fun K hK => ?_)
      refine gO_ Try.func106 #[.int .i64 a0_0,.int .i64 1,.int .i64 13] ?_
      with_reducible refine (impl_within.calls a0_0 1 13 true _ A8.out).mono ?_
      rintro e w' ⟨rfl,⟨nd,rfl⟩⟩
      refine ⟨_,rfl,?_⟩
      refine kO_ hK (some 13) (bC5_ BK395.out) (fun hHeld => ?_)
      clear hK K
      refine jU_ 7 14 33 255 ?_
      refine jU_ 8 15 33 511 ?_
      refine jU_ 9 16 33 1023 ?_
      refine jK5_ 10 17 33 2047 ?_
      refine jK5_ 11 18 33 4095 ?_
      refine jN_ 12 19 33 8191 (fun K hK => ?_)
      refine gO_ Try.func183 #[.agg #[.int .i64 a0_0,.int .i64 a0_1,.int .i64 a0_2,.int .i64 a0_3,.int .i64 a0_4]] ?_
      with_reducible refine (impl_named.calls k a0_0 a0_1 a0_2 a0_3 a0_4 t398 t399 t400 t401 t402 _ A10.out).mono ?_
      rintro e w24 ⟨rfl,hb⟩
      refine ⟨_,rfl,?_⟩
      replace BK395 := aM_ (nB_ BK395.out hb)
      replace HB := aM_ (sT_ HB.out hb)
      (try clear hb)
      (try clear hb2)
      (try clear hk)
      (try clear hi)
      refine kO_ hK (some 19) (bC5_ BK395.out) (fun hHeld => ?_)
      clear hK K
      refine jU_ 13 20 33 16383 ?_
      refine jU_ 14 21 33 32767 ?_
      refine jU_ 15 22 33 65535 ?_
      refine jU_ 16 23 33 131071 ?_
      refine jK5_ 17 24 33 262143 ?_
      refine jN_ 18 25 33 524287 (fun K hK => ?_)
      refine gO_ Try.func184 #[.int .i64 a0_1] ?_
      with_reducible refine (impl_isReg.calls a0_1 false _ A14.out).mono ?_
      rintro e w' ⟨rfl,⟨nd,rfl⟩⟩
      refine ⟨_,rfl,?_⟩
      refine kO_ hK (some 25) (bC5_ BK395.out) (fun hHeld => ?_)
      clear hK K
      refine jU_ 19 26 33 1048575 ?_
      refine jU_ 20 27 33 2097151 ?_
      refine jU_ 21 28 33 4194303 ?_
      refine jX_ 22 29 33 8388607 ?_
      refine jX_ 23 30 33 16777215 ?_
      refine jX_ 24 31 33 33554431 ?_
      refine jX_ 25 32 33 67108863 ?_
      refine jU_ 26 33 33 134217727 ?_
      refine jU_ 27 34 33 268435455 ?_
      refine jX_ 28 35 33 536870911 ?_
      refine jX_ 29 36 33 1073741823 ?_
      refine jX_ 30 37 33 2147483647 ?_
      refine jX_ 31 38 33 4294967295 ?_
      refine jU_ 32 39 33 8589934591 ?_
      refine done_ (done_of HT_.out (by kernel_rfl)) ?_
      try go_wp2
      go_meet
      case rel => exact ⟨_,(true),(by first | rfl | (simp;done) | (simp [*];done)),H',⟨by first | omega | exact Nat.le_refl _⟩,⟨rW_ BK395.out⟩,⟨gW_ HB.out⟩⟩
   ·replace c9 := Bool.eq_false_iff.mpr c9
    subst c9
    have H1 : (impl_InsOk.j0 k a1 a2 true a0_0 a0_1 a0_2 a0_3 a0_4) = some r := by rw [if_neg (show ¬ (false = true) by decide)] at H;exact H
    clear H
    have H := H1
    clear H1
    have H' := aM_ H
    clear H
    try go_wp2
    replace BK395 := aM_ (blk_drew BK395.out)
    replace HB := aM_ (below_drew1 HB.out)
    refine sTa_ 33 (fun w' => K_ w' gb395 0 (.int .i64 a0_0) ∧ K_ w' gb395 1 (.int .i64 a0_1) ∧ K_ w' gb395 2 (.int .i64 a0_2) ∧ K_ w' gb395 3 (.int .i64 a0_3) ∧ K_ w' gb395 4 (.int .i64 a0_4)) [] (bC5_ BK395.out) (fun hHeld => ?_);refine with_tabW impl_InsOk.tab1 impl_InsOk.bits1 (fun HT_ HW_ => ?_)
    generalize w5.drew = w25 at BK395 HB hHeld ⊢
    refine jU_ 0 7 33 1 ?_
    refine jN_ 1 8 33 3 (fun K hK => ?_)
    refine gO_ Try.func106 #[.int .i64 a2,.int .i64 0,.int .i64 3] ?_
    with_reducible refine (impl_within.calls a2 0 3 true _ A6.out).mono ?_
    rintro e w' ⟨rfl,⟨nd,rfl⟩⟩
    refine ⟨_,rfl,?_⟩
    refine kO_ hK (some 8) (bC5_ BK395.out) (fun hHeld => ?_)
    clear hK K
    refine jU_ 2 9 33 7 ?_
    refine jU_ 3 10 33 15 ?_
    refine jU_ 4 11 33 31 ?_
    refine jK5_ 5 12 33 63 ?_
    refine jN_ 6 13 33 127 (fun K hK => ?_)
    refine gO_ Try.func106 #[.int .i64 a0_0,.int .i64 1,.int .i64 13] ?_
    with_reducible refine (impl_within.calls a0_0 1 13 false _ A8.out).mono ?_
    rintro e w' ⟨rfl,⟨nd,rfl⟩⟩
    refine ⟨_,rfl,?_⟩
    refine kO_ hK (some 13) (bC5_ BK395.out) (fun hHeld => ?_)
    clear hK K
    refine jU_ 7 14 33 255 ?_
    refine jU_ 8 15 33 511 ?_
    refine jU_ 9 16 33 1023 ?_
    refine jX_ 10 17 33 2047 ?_
    refine jX_ 11 18 33 4095 ?_
    refine jX_ 12 19 33 8191 ?_
    refine jX_ 13 20 33 16383 ?_
    refine jU_ 14 21 33 32767 ?_
    refine jU_ 15 22 33 65535 ?_
    refine jX_ 16 23 33 131071 ?_
    refine jX_ 17 24 33 262143 ?_
    refine jX_ 18 25 33 524287 ?_
    refine jX_ 19 26 33 1048575 ?_
    refine jU_ 20 27 33 2097151 ?_
    refine jU_ 21 28 33 4194303 ?_
    refine jX_ 22 29 33 8388607 ?_
    refine jX_ 23 30 33 16777215 ?_
    refine jX_ 24 31 33 33554431 ?_
    refine jX_ 25 32 33 67108863 ?_
    refine jU_ 26 33 33 134217727 ?_
    refine jU_ 27 34 33 268435455 ?_
    refine jX_ 28 35 33 536870911 ?_
    refine jX_ 29 36 33 1073741823 ?_
    refine jX_ 30 37 33 2147483647 ?_
    refine jX_ 31 38 33 4294967295 ?_
    refine jU_ 32 39 33 8589934591 ?_
    refine done_ (done_of HT_.out (by kernel_rfl)) ?_
    try go_wp2
    go_meet
    case rel => exact ⟨_,(true),(by first | rfl | (simp;done) | (simp [*];done)),H',⟨by first | omega | exact Nat.le_refl _⟩,⟨rW_ BK395.out⟩,⟨gW_ HB.out⟩⟩
  ·replace c7 := Bool.eq_false_iff.mpr c7
   subst c7
   have H1 : (impl_InsOk.j0 k a1 a2 true a0_0 a0_1 a0_2 a0_3 a0_4) = some r := by rw [if_neg (show ¬ (false = true) by decide)] at H;exact H
   clear H
   have H := H1
   clear H1
   have H' := aM_ H
   clear H
   try go_wp2
   replace BK395 := aM_ (blk_drew BK395.out)
   replace HB := aM_ (below_drew1 HB.out)
   refine sTa_ 33 (fun w' => True) [] trivial (fun hHeld => ?_);refine with_tabW impl_InsOk.tab1 impl_InsOk.bits1 (fun HT_ HW_ => ?_)
   generalize w5.drew = w26 at BK395 HB hHeld ⊢
   refine jU_ 0 7 33 1 ?_
   refine jN_ 1 8 33 3 (fun K hK => ?_)
   refine gO_ Try.func106 #[.int .i64 a2,.int .i64 0,.int .i64 3] ?_
   with_reducible refine (impl_within.calls a2 0 3 false _ A6.out).mono ?_
   rintro e w' ⟨rfl,⟨nd,rfl⟩⟩
   refine ⟨_,rfl,?_⟩
   refine kO_ hK (some 8) trivial (fun hHeld => ?_)
   clear hK K
   refine jU_ 2 9 33 7 ?_
   refine jU_ 3 10 33 15 ?_
   refine jX_ 4 11 33 31 ?_
   refine jX_ 5 12 33 63 ?_
   refine jX_ 6 13 33 127 ?_
   refine jX_ 7 14 33 255 ?_
   refine jU_ 8 15 33 511 ?_
   refine jU_ 9 16 33 1023 ?_
   refine jX_ 10 17 33 2047 ?_
   refine jX_ 11 18 33 4095 ?_
   refine jX_ 12 19 33 8191 ?_
   refine jX_ 13 20 33 16383 ?_
   refine jU_ 14 21 33 32767 ?_
   refine jU_ 15 22 33 65535 ?_
   refine jX_ 16 23 33 131071 ?_
   refine jX_ 17 24 33 262143 ?_
   refine jX_ 18 25 33 524287 ?_
   refine jX_ 19 26 33 1048575 ?_
   refine jU_ 20 27 33 2097151 ?_
   refine jU_ 21 28 33 4194303 ?_
   refine jX_ 22 29 33 8388607 ?_
   refine jX_ 23 30 33 16777215 ?_
   refine jX_ 24 31 33 33554431 ?_
   refine jX_ 25 32 33 67108863 ?_
   refine jU_ 26 33 33 134217727 ?_
   refine jU_ 27 34 33 268435455 ?_
   refine jX_ 28 35 33 536870911 ?_
   refine jX_ 29 36 33 1073741823 ?_
   refine jX_ 30 37 33 2147483647 ?_
   refine jX_ 31 38 33 4294967295 ?_
   refine jU_ 32 39 33 8589934591 ?_
   refine done_ (done_of HT_.out (by kernel_rfl)) ?_
   try go_wp2
   go_meet
   case rel => exact ⟨_,(true),(by first | rfl | (simp;done) | (simp [*];done)),H',⟨by first | omega | exact Nat.le_refl _⟩,⟨rW_ BK395.out⟩,⟨gW_ HB.out⟩⟩
 case rest =>
  clear HC4
  (try clear c1);(try clear p2);(try clear c7);(try clear c9);(try clear c10);(try clear c18)
  obtain ⟨kq,x39_3,rfl,HA,HJ3,BK395,HB⟩ := hcut
  cases kq with
  | zero => exact absurd HA.out (by simp [impl_InsOk.j0])
  | succ kj3 =>
   have H := HA.out
   clear HA
   simp only [impl_InsOk.j0] at H
   by_cases c27 : x39_3 = true
   ·subst c27
    have H1 : (some false) = some r := by rw [if_pos rfl] at H;exact H
    clear H
    have H := H1
    clear H1
    obtain rfl := sJ_ H
    go_wp2
    go_ret
    exact fI_ HB.out
   ·replace c27 := Bool.eq_false_iff.mpr c27
    subst c27
    have H1 : (if a0_0 = 1 then ((impl_within.f a0_4 (-1000000000) 1000000000).bind fun t406 => (some t406)) else (if a0_0 = 11 then (impl_InsOk.j1 kj3 a1 a2 true a0_0 a0_1 a0_2 a0_3 a0_4) else (impl_InsOk.j1 kj3 a1 a2 (a0_0 == 12) a0_0 a0_1 a0_2 a0_3 a0_4))) = some r := by rw [if_neg (show ¬ (false = true) by decide)] at H;exact H
    clear H
    have H := H1
    clear H1
    by_cases c28 : a0_0 = 1
    ·rw [if_pos c28] at H
     have c28b0 : (a0_0 == 1) = true := beq_iff_eq.mpr c28
     have c28b1 : (a0_0 != 1) = false := bne_eq_false_iff_eq.mpr c28
     clear c28
     replace H := Option.bind_eq_some_iff.mp H
     obtain ⟨t406,A290,H⟩ := H
     replace H : (some t406) = some r := H
     have A29 := aM_ A290
     clear A290
     obtain rfl := sJ_ H
     have z_30 := bR5_ BK395.out
     go_wp2_with (first | (refine gL_ (some 46) Try.func106 #[.int .i64 a0_4,.int .i64 (-1000000000),.int .i64 1000000000] ?_;(with_reducible refine (impl_within.calls a0_4 (-1000000000) 1000000000 t406 _ A29.out).mono ?_);rintro e w' ⟨rfl,⟨nd,rfl⟩⟩;refine ⟨_,rfl,?_⟩))
     go_ret
     exact fI_ HB.out
    ·rw [if_neg c28] at H
     have c28b0 : (a0_0 == 1) = false := beq_eq_false_iff_ne.mpr c28
     have c28b1 : (a0_0 != 1) = true := bne_iff_ne.mpr c28
     have HC31 := aM_ H
     clear H
     have z_32 := bR5_ BK395.out
     go_upto_region 5 with (fail)
     go_cut [47] (fun v47 wc => ∃ (kq : Nat) (x47_30 : Bool),v47 = .bool x47_30 ∧ Aside0 (impl_InsOk.j1 kq a1 a2 x47_30 a0_0 a0_1 a0_2 a0_3 a0_4 = some r) ∧ Aside0 (kq ≤ kj3) ∧ Aside0 (wc.heap[gb395]? = some (.cells #[.int .i64 a0_0,.int .i64 a0_1,.int .i64 a0_2,.int .i64 a0_3,.int .i64 a0_4] 192 (0,0))) ∧ Aside0 (Below w.heap.size w wc))
     case first =>
      have H := HC31.out
      clear HC31
      by_cases c33 : a0_0 = 11
      ·rw [if_pos c33] at H
       have c33b0 : (a0_0 == 11) = true := beq_iff_eq.mpr c33
       have c33b1 : (a0_0 != 11) = false := bne_eq_false_iff_eq.mpr c33
       clear c33
       (first | rw [c33b0] | (simp only [i64_w,i32_w];rw [c33b0]) | skip)
       have H' := aM_ H
       clear H
       have z_34 := bR5_ BK395.out
       go_wp2
       go_meet
       case rel => exact ⟨_,(true),(by first | rfl | (simp;done) | (simp [*];done)),H',⟨by have := HJ3.out;first | omega | exact Nat.le_refl _⟩,⟨rW_ BK395.out⟩,⟨gW_ HB.out⟩⟩
      ·rw [if_neg c33] at H
       have c33b0 : (a0_0 == 11) = false := beq_eq_false_iff_ne.mpr c33
       have c33b1 : (a0_0 != 11) = true := bne_iff_ne.mpr c33
       (first | rw [c33b0] | (simp only [i64_w,i32_w];rw [c33b0]) | skip)
       have H' := aM_ H
       clear H
       have z_35 := bR5_ BK395.out
       go_wp2
       go_meet
       case rel => exact ⟨_,((a0_0 == 12)),(by first | rfl | (simp;done) | (simp [*];done)),H',⟨by have := HJ3.out;first | omega | exact Nat.le_refl _⟩,⟨rW_ BK395.out⟩,⟨gW_ HB.out⟩⟩
     case rest =>
      clear HC31
      (try clear c1);(try clear c2);(try clear p2);(try clear c3);(try clear c7);(try clear c9);(try clear c10);(try clear c18);(try clear c27);(try clear c28);(try clear c28b0);(try clear c28b1);(try clear c33);(try clear c33b0);(try clear c33b1);(try clear z_30);(try clear z_32);(try clear z_34);(try clear z_35);(try clear p2)
      obtain ⟨kq,x47_30,rfl,HA,HJ30,BK395,HB⟩ := hcut
      cases kq with
      | zero => exact absurd HA.out (by simp [impl_InsOk.j1])
      | succ kj30 =>
       have H := HA.out
       clear HA
       simp only [impl_InsOk.j1] at H
       by_cases c36 : x47_30 = true
       ·subst c36
        have H1 : ((impl_within.f a0_4 0 (wrap64 (a1 - 1))).bind fun t407 => (some t407)) = some r := by rw [if_pos rfl] at H;exact H
        clear H
        have H := H1
        clear H1
        replace H := Option.bind_eq_some_iff.mp H
        obtain ⟨t407,A370,H⟩ := H
        replace H : (some t407) = some r := H
        have A37 := aM_ A370
        clear A370
        obtain rfl := sJ_ H
        have z_38 := bR5_ BK395.out
        go_wp2_with (first | (refine gL_ (some 60) Try.func106 #[.int .i64 a0_4,.int .i64 0,.int .i64 (wrap64 (a1 - 1))] ?_;(with_reducible refine (impl_within.calls a0_4 0 (wrap64 (a1 - 1)) t407 _ A37.out).mono ?_);rintro e w' ⟨rfl,⟨nd,rfl⟩⟩;refine ⟨_,rfl,?_⟩))
        go_ret
        exact fI_ HB.out
       ·replace c36 := Bool.eq_false_iff.mpr c36
        subst c36
        have H1 : (if a0_0 = 6 then (impl_InsOk.j2 kj30 a2 (a0_1 == a0_3) a0_0 a0_1 a0_2 a0_3 a0_4) else (if a0_0 = 8 then (impl_InsOk.j2 kj30 a2 (a0_1 == a0_3) a0_0 a0_1 a0_2 a0_3 a0_4) else (impl_InsOk.j2 kj30 a2 false a0_0 a0_1 a0_2 a0_3 a0_4))) = some r := by rw [if_neg (show ¬ (false = true) by decide)] at H;exact H
        clear H
        have H := H1
        clear H1
        have HC39 := aM_ H
        clear H
        go_upto_region 7 with (fail)
        go_cut [61] (fun v61 wc => ∃ (kq : Nat) (x61_38 : Bool),v61 = .bool x61_38 ∧ Aside0 (impl_InsOk.j2 kq a2 x61_38 a0_0 a0_1 a0_2 a0_3 a0_4 = some r) ∧ Aside0 (kq ≤ kj30) ∧ Aside0 (wc.heap[gb395]? = some (.cells #[.int .i64 a0_0,.int .i64 a0_1,.int .i64 a0_2,.int .i64 a0_3,.int .i64 a0_4] 192 (0,0))) ∧ Aside0 (Below w.heap.size w wc))
        case first =>
         have H := HC39.out
         clear HC39
         by_cases c40 : a0_0 = 6
         ·rw [if_pos c40] at H
          have c40b0 : (a0_0 == 6) = true := beq_iff_eq.mpr c40
          have c40b1 : (a0_0 != 6) = false := bne_eq_false_iff_eq.mpr c40
          clear c40
          (first | rw [c40b0] | (simp only [i64_w,i32_w];rw [c40b0]) | skip)
          have H' := aM_ H
          clear H
          have z_41 := bR5_ BK395.out
          go_wp2
          go_meet
          case rel => exact ⟨_,((a0_1 == a0_3)),(by first | rfl | (simp;done) | (simp [*];done)),H',⟨by have := HJ3.out;have := HJ30.out;first | omega | exact Nat.le_refl _⟩,⟨rW_ BK395.out⟩,⟨gW_ HB.out⟩⟩
         ·rw [if_neg c40] at H
          have c40b0 : (a0_0 == 6) = false := beq_eq_false_iff_ne.mpr c40
          have c40b1 : (a0_0 != 6) = true := bne_iff_ne.mpr c40
          (first | rw [c40b0] | (simp only [i64_w,i32_w];rw [c40b0]) | skip)
          by_cases c42 : a0_0 = 8
          ·rw [if_pos c42] at H
           have c42b0 : (a0_0 == 8) = true := beq_iff_eq.mpr c42
           have c42b1 : (a0_0 != 8) = false := bne_eq_false_iff_eq.mpr c42
           clear c42
           have H' := aM_ H
           clear H
           have z_43 := bR5_ BK395.out
           go_wp2
           go_meet
           case rel => exact ⟨_,((a0_1 == a0_3)),(by first | rfl | (simp;done) | (simp [*];done)),H',⟨by have := HJ3.out;have := HJ30.out;first | omega | exact Nat.le_refl _⟩,⟨rW_ BK395.out⟩,⟨gW_ HB.out⟩⟩
          ·rw [if_neg c42] at H
           have c42b0 : (a0_0 == 8) = false := beq_eq_false_iff_ne.mpr c42
           have c42b1 : (a0_0 != 8) = true := bne_iff_ne.mpr c42
           have H' := aM_ H
           clear H
           have z_44 := bR5_ BK395.out
           go_wp2
           go_meet
           case rel => exact ⟨_,(false),(by first | rfl | (simp;done) | (simp [*];done)),H',⟨by have := HJ3.out;have := HJ30.out;first | omega | exact Nat.le_refl _⟩,⟨rW_ BK395.out⟩,⟨gW_ HB.out⟩⟩
        case rest =>
         clear HC39
         (try clear c1);(try clear c2);(try clear p2);(try clear c3);(try clear c4);(try clear p6);(try clear c7);(try clear c9);(try clear c10);(try clear c18);(try clear c27);(try clear c28);(try clear c28b0);(try clear c28b1);(try clear c33);(try clear c33b0);(try clear c33b1);(try clear c36);(try clear c40);(try clear c40b0);(try clear c40b1);(try clear c42);(try clear c42b0);(try clear c42b1);(try clear z_30);(try clear z_32);(try clear z_34);(try clear z_35);(try clear z_38);(try clear z_41);(try clear z_43);(try clear z_44);(try clear p2)
         obtain ⟨kq,x61_38,rfl,HA,HJ38,BK395,HB⟩ := hcut
         cases kq with
         | zero => exact absurd HA.out (by simp [impl_InsOk.j2])
         | succ kj38 =>
          have H := HA.out
          clear HA
          simp only [impl_InsOk.j2] at H
          by_cases c45 : x61_38 = true
          ·subst c45
           have H1 : (some false) = some r := by rw [if_pos rfl] at H;exact H
           clear H
           have H := H1
           clear H1
           obtain rfl := sJ_ H
           go_wp2
           go_ret
           exact fI_ HB.out
          ·replace c45 := Bool.eq_false_iff.mpr c45
           subst c45
           have H1 : ((impl_ofChan.f a0_0).bind fun t408 => (if t408 = true then ((impl_within.f a0_4 0 (wrap64 (a2 - 1))).bind fun t409 => (some t409)) else (some true))) = some r := by rw [if_neg (show ¬ (false = true) by decide)] at H;exact H
           clear H
           have H := H1
           clear H1
           replace H := Option.bind_eq_some_iff.mp H
           obtain ⟨t408,A460,H⟩ := H
           replace H : (if t408 = true then ((impl_within.f a0_4 0 (wrap64 (a2 - 1))).bind fun t409 => (some t409)) else (some true)) = some r := H
           have A46 := aM_ A460
           clear A460
           by_cases c47 : t408 = true
           ·subst c47
            have H1 : ((impl_within.f a0_4 0 (wrap64 (a2 - 1))).bind fun t409 => (some t409)) = some r := by rw [if_pos rfl] at H;exact H
            clear H
            have H := H1
            clear H1
            replace H := Option.bind_eq_some_iff.mp H
            obtain ⟨t409,A480,H⟩ := H
            replace H : (some t409) = some r := H
            have A48 := aM_ A480
            clear A480
            obtain rfl := sJ_ H
            have z_49 := bR5_ BK395.out
            go_wp2_with (first | (refine gL_ (some 79) Try.func185 #[.int .i64 a0_0] ?_;(with_reducible refine (impl_ofChan.calls a0_0 true _ A46.out).mono ?_);rintro e w' ⟨rfl,⟨nd,rfl⟩⟩;refine ⟨_,rfl,?_⟩) | (go_at_call 106;(with_reducible refine (impl_within.calls a0_4 0 (wrap64 (a2 - 1)) t409 _ A48.out).mono ?_);rintro e w' ⟨rfl,⟨nd,rfl⟩⟩))
            go_ret
            exact fI_ HB.out
           ·replace c47 := Bool.eq_false_iff.mpr c47
            subst c47
            have H1 : (some true) = some r := by rw [if_neg (show ¬ (false = true) by decide)] at H;exact H
            clear H
            have H := H1
            clear H1
            obtain rfl := sJ_ H
            have z_50 := bR5_ BK395.out
            go_wp2_with (first | (refine gL_ (some 79) Try.func185 #[.int .i64 a0_0] ?_;(with_reducible refine (impl_ofChan.calls a0_0 false _ A46.out).mono ?_);rintro e w' ⟨rfl,⟨nd,rfl⟩⟩;refine ⟨_,rfl,?_⟩))
            go_ret
            exact fI_ HB.out
end Go.Proofs.Ytobachfngmpeiaa.PFnExactAble
