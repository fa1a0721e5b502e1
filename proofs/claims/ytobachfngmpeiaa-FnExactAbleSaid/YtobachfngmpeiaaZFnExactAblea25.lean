/- Part of the proof of FnExactAble. -/
import Derived.Test.YtobachfngmpeiaaZFnExactAblea24
set_option maxRecDepth 100000
namespace Go.Proofs.Ytobachfngmpeiaa.Marks
open Go.RowKit Go.Proofs.YtobachfngmpeiaaW.PrintWords Go.Proofs.YtobachfngmpeiaaW.PrintLast Go.Proofs.YtobachfngmpeiaaW.PrintMore
set_option linter.unusedVariables false
set_option linter.unusedSimpArgs false
set_option maxHeartbeats 8000000 in
theorem wr_markIntS (P : Nat → Prop) (w : World) (A : Option Addr) (n c : Nat) (k : Int) (L : List Cel) (h : RowV P w .int A n L) (h0 : 0 ≤ k) (hk : k + (L.length : Int) ≤ 4611686018427387904) :
  Calls Try.prog 40 #[.slice A n c,.int .i64 k] w fun e w' => e = .returned (.int .i64 (k + (L.length : Int))) ∧ Mk P w w' ∧ Wr w L k w' := by
 obtain ⟨hn,Ls,rfl,h⟩ := h
 go_enter Try.func40,Try.ntmps40
 go_wp2
 go_loopg [1,5] n (fun kq v1 v5 w' => ∃ (x1 x5 : Int),v1 = .int .i64 x1 ∧ v5 = .int .i64 x5 ∧ Aside0 (0 ≤ x5 ∧ x5 + (kq : Int) = (n : Int) ∧ x1 = k + ((cat Ls x5.toNat).length : Int)) ∧ Aside0 (Mk P w w') ∧ Aside0 (Wr w (cat Ls x5.toNat) k w'))
 case atStart => exact ⟨k,0,rfl,rfl,⟨by simp [cat]⟩,⟨Mk.refl P w⟩,⟨Wr.refl w k⟩⟩
 case round =>
  obtain ⟨x1,x5,rfl,rfl,HJ,HM0,HW0⟩ := hrel
  obtain ⟨j0,j1,jx⟩ := HJ.out
  by_cases c3 : x5 < (n : Int)
  ·have c3b0 : decide (x5 < (n : Int)) = true := decide_eq_true c3
   obtain ⟨g,rfl,hp,hi⟩ := h (by omega)
   have cl := cat_le Ls (j := x5.toNat) (n := n) (by omega)
   have cs_ := cat_succ Ls x5.toNat
   have hv := hi x5.toNat (by omega)
   generalize hLs : Ls x5.toNat = E at cl cs_ hv
   obtain ⟨e0,i0⟩ := hv
   have i0 : IntAt w g (x5.toNat) := (by first | simpa using i0 | (simp [Ty.sz] at i0;exact i0) | exact i0)
   have hE : E = [(g,x5.toNat,false)] := by
    skip;(try rw [e0]);(try first | rfl | simp [Ty.sz])
   have hEl : E.length = 1 := by rw [hE];(try simp only [List.length_append,List.length_cons,List.length_nil,Nat.zero_add])
   have p5 : (0 ≤ x5) = True := eq_true j0
   have q5 : (x5 < (n : Int)) = True := eq_true c3
   rw [hEl] at cl
   have e5 : wrap64 (x5 + 1) = x5 + 1 := wrap_in (by omega) (by omega)
   have HE5 := Aside0.mk e5
   have HC0 : Aside0 (x1 = k + ((cat Ls x5.toNat).length : Int)) := ⟨jx⟩
   have HCL := Aside0.mk cl
   obtain ⟨m0,hx0,hf0⟩ := (i0.mk HM0.out).cell
   have HM1 := Aside0.mk (HM0.out.set (u := .int .i64 (x1)) hp hx0 (.inr (.inl ⟨_,_,_,rfl,rfl⟩)))
   have HW1 := Aside0.mk (HW0.out.set (g := g) (o := x5.toNat) false (v := .int .i64 (x1)) (by rw [HC0.out];rfl))
   have HC1 : Aside0 (wrap64 (x1 + 1) = k + ((cat Ls x5.toNat ++ [(g,x5.toNat,false)]).length : Int)) := ⟨by have h1_ := HC0.out;have h2_ := HCL.out;rw [List.length_append,List.length_singleton];rw [wrap_in (n := x1 + 1)] <;> (push_cast;(try simp only [List.length_append,List.length_cons,List.length_nil,Nat.zero_add] at h1_);(try simp only [List.length_append,List.length_cons,List.length_nil,Nat.zero_add] at h2_);(try simp only [List.length_append,List.length_cons,List.length_nil,Nat.zero_add]);omega)⟩
   clear HJ jx cl hEl e5
   go_wp2
   go_roundg (n - x5.toNat - 1)
   case measure => omega
   case rel => exact ⟨_,_,rfl,rfl,⟨by have h1_ := HC1.out;have h5_ := HE5.out;refine ⟨by omega,by omega,?_⟩;rw [h1_];(try rw [h5_]);rw [show (x5 + 1).toNat = x5.toNat + 1 by omega,cs_,hE];(try simp only [List.append_assoc])⟩,HM1,⟨HW1.out.cast (by (try rw [HE5.out]);rw [show (x5 + 1).toNat = x5.toNat + 1 by omega,cs_,hE];(try simp only [List.append_assoc]))⟩⟩
  ·have c3b0 : decide (x5 < (n : Int)) = false := decide_eq_false c3
   have hx1 : x5.toNat = n := by omega
   rw [hx1] at jx HW0
   subst jx
   go_wp2
   go_ret
   exact ⟨rfl,HM0.out,HW0.out⟩
set_option maxHeartbeats 8000000 in
theorem hd_heldIntS (P : Nat → Prop) (w : World) (A : Option Addr) (n c : Nat) (k : Int) (L : List Cel) (h : RowV P w .int A n L) (hv : HeldAt w L k) (h0 : 0 ≤ k) (hk : k + (L.length : Int) ≤ 4611686018427387904) :
  Calls Try.prog 41 #[.slice A n c,.int .i64 k] w fun e w' => e = .returned (.int .i64 (k + (L.length : Int))) ∧ Drawn0 w w' := by
 obtain ⟨hn,Ls,rfl,h⟩ := h
 have HV := Aside0.mk hv
 clear hv
 go_enter Try.func41,Try.ntmps41
 go_wp2
 go_loopg [1,5] n (fun kq v1 v5 w' => ∃ (x1 x5 : Int),v1 = .int .i64 x1 ∧ v5 = .int .i64 x5 ∧ Aside0 (0 ≤ x5 ∧ x5 + (kq : Int) = (n : Int) ∧ x1 = k + ((cat Ls x5.toNat).length : Int)) ∧ Drawn0 w w')
 case atStart => exact ⟨k,0,rfl,rfl,⟨by simp [cat]⟩,by repeat (first | exact Drawn0.refl _ | apply Drawn0.step)⟩
 case round =>
  obtain ⟨x1,x5,rfl,rfl,HJ,⟨m1,rfl⟩⟩ := hrel
  obtain ⟨j0,j1,jx⟩ := HJ.out
  by_cases c3 : x5 < (n : Int)
  ·have c3b0 : decide (x5 < (n : Int)) = true := decide_eq_true c3
   obtain ⟨g,rfl,hp,hi⟩ := h (by omega)
   have cl := cat_le Ls (j := x5.toNat) (n := n) (by omega)
   have cs_ := cat_succ Ls x5.toNat
   have hv := hi x5.toNat (by omega)
   have HE_ := Aside0.mk (HV.out.cat (j := x5.toNat) (by omega))
   generalize hLs : Ls x5.toNat = E at cl cs_ hv HE_
   obtain ⟨e0,-⟩ := hv
   have hE : E = [(g,x5.toNat,false)] := by
    skip;(try rw [e0]);(try first | rfl | simp [Ty.sz])
   have hEl : E.length = 1 := by rw [hE];(try simp only [List.length_append,List.length_cons,List.length_nil,Nat.zero_add]);(try omega)
   have p5 : (0 ≤ x5) = True := eq_true j0
   have q5 : (x5 < (n : Int)) = True := eq_true c3
   rw [hEl] at cl
   rw [hE] at HE_
   have e5 : wrap64 (x5 + 1) = x5 + 1 := wrap_in (by omega) (by omega)
   have HE5 := Aside0.mk e5
   have HCL := Aside0.mk cl
   have HC0 : Aside0 (x1 = k + ((cat Ls x5.toNat).length : Int)) := ⟨jx⟩
   have hx0 : w.cell? ⟨g,x5.toNat,none⟩ = some (.int .i64 (x1)) := by rw [HeldAt.one (HE_.out),← HC0.out];rfl
   have HC1 : Aside0 (wrap64 (x1 + 1) = k + ((cat Ls x5.toNat).length : Int) + (([(g,x5.toNat,false)] : List Cel).length : Int)) := ⟨by have h1_ := HC0.out;have h2_ := HCL.out;(try simp only [List.length_singleton] at h1_);simp only [List.length_singleton];rw [wrap_in (n := x1 + 1)] <;> ((try push_cast at h1_);(try push_cast);omega)⟩
   clear HJ jx cl hEl e5 HE_
   go_wp2
   go_roundg (n - x5.toNat - 1)
   case measure => omega
   case rel => exact ⟨_,_,rfl,rfl,⟨by have h1_ := HC1.out;have h5_ := HE5.out;refine ⟨by omega,by omega,?_⟩;rw [h1_];(try rw [h5_]);rw [show (x5 + 1).toNat = x5.toNat + 1 by omega,cs_,hE];(try simp only [List.length_singleton]);(try simp only [List.length_append,List.length_cons,List.length_nil,Nat.zero_add]);push_cast;omega⟩,by repeat (first | exact Drawn0.refl _ | apply Drawn0.step)⟩
  ·have c3b0 : decide (x5 < (n : Int)) = false := decide_eq_false c3
   have hx1 : x5.toNat = n := by omega
   rw [hx1] at jx
   subst jx
   go_wp2
   go_ret
   exact ⟨rfl,by repeat (first | exact Drawn0.refl _ | apply Drawn0.step)⟩
set_option maxHeartbeats 8000000 in
theorem wr_markInsS (P : Nat → Prop) (w : World) (A : Option Addr) (n c : Nat) (k : Int) (L : List Cel) (h : RowV P w (.pair .int (.pair .int (.pair .int (.pair .int .int)))) A n L) (h0 : 0 ≤ k) (hk : k + (L.length : Int) ≤ 4611686018427387904) :
  Calls Try.prog 131 #[.slice A n c,.int .i64 k] w fun e w' => e = .returned (.int .i64 (k + (L.length : Int))) ∧ Mk P w w' ∧ Wr w L k w' := by
 obtain ⟨hn,Ls,rfl,h⟩ := h
 go_enter Try.func131,Try.ntmps131
 go_wp2
 go_loopg [1,5] n (fun kq v1 v5 w' => ∃ (x1 x5 : Int),v1 = .int .i64 x1 ∧ v5 = .int .i64 x5 ∧ Aside0 (0 ≤ x5 ∧ x5 + (kq : Int) = (n : Int) ∧ x1 = k + ((cat Ls x5.toNat).length : Int)) ∧ Aside0 (Mk P w w') ∧ Aside0 (Wr w (cat Ls x5.toNat) k w'))
 case atStart => exact ⟨k,0,rfl,rfl,⟨by simp [cat]⟩,⟨Mk.refl P w⟩,⟨Wr.refl w k⟩⟩
 case round =>
  obtain ⟨x1,x5,rfl,rfl,HJ,HM0,HW0⟩ := hrel
  obtain ⟨j0,j1,jx⟩ := HJ.out
  by_cases c3 : x5 < (n : Int)
  ·have c3b0 : decide (x5 < (n : Int)) = true := decide_eq_true c3
   obtain ⟨g,rfl,hp,hi⟩ := h (by omega)
   have cl := cat_le Ls (j := x5.toNat) (n := n) (by omega)
   have cs_ := cat_succ Ls x5.toNat
   have hv := hi x5.toNat (by omega)
   generalize hLs : Ls x5.toNat = E at cl cs_ hv
   obtain ⟨E0,D0,eE0,v0,r0⟩ := hv
   obtain ⟨e0,i0⟩ := v0
   have i0 : IntAt w g (x5.toNat * 5) := (by first | simpa using i0 | (simp [Ty.sz] at i0;exact i0) | exact i0)
   obtain ⟨E1,D1,eE1,v1,r1⟩ := r0
   obtain ⟨e1,i1⟩ := v1
   have i1 : IntAt w g (x5.toNat * 5 + 1) := (by first | simpa using i1 | (simp [Ty.sz] at i1;exact i1) | exact i1)
   obtain ⟨E2,D2,eE2,v2,r2⟩ := r1
   obtain ⟨e2,i2⟩ := v2
   have i2 : IntAt w g (x5.toNat * 5 + 2) := (by first | simpa using i2 | (simp [Ty.sz] at i2;exact i2) | exact i2)
   obtain ⟨E3,D3,eE3,v3,r3⟩ := r2
   obtain ⟨e3,i3⟩ := v3
   have i3 : IntAt w g (x5.toNat * 5 + 3) := (by first | simpa using i3 | (simp [Ty.sz] at i3;exact i3) | exact i3)
   obtain ⟨e4,i4⟩ := r3
   have i4 : IntAt w g (x5.toNat * 5 + 4) := (by first | simpa using i4 | (simp [Ty.sz] at i4;exact i4) | exact i4)
   have hE : E = [(g,x5.toNat * 5,false)] ++ [(g,x5.toNat * 5 + 1,false)] ++ [(g,x5.toNat * 5 + 2,false)] ++ [(g,x5.toNat * 5 + 3,false)] ++ [(g,x5.toNat * 5 + 4,false)] := by
    rw [eE0,eE1,eE2,eE3];skip;(try rw [e0]);(try rw [e1]);(try rw [e2]);(try rw [e3]);(try rw [e4]);(try first | rfl | simp [Ty.sz])
   have hEl : E.length = 1 + 1 + 1 + 1 + 1 := by rw [hE];(try simp only [List.length_append,List.length_cons,List.length_nil,Nat.zero_add])
   have p5 : (0 ≤ x5) = True := eq_true j0
   have q5 : (x5 < (n : Int)) = True := eq_true c3
   rw [hEl] at cl
   have e5 : wrap64 (x5 + 1) = x5 + 1 := wrap_in (by omega) (by omega)
   have HE5 := Aside0.mk e5
   have HC0 : Aside0 (x1 = k + ((cat Ls x5.toNat).length : Int)) := ⟨jx⟩
   have HCL := Aside0.mk cl
   obtain ⟨m0,hx0,hf0⟩ := (i0.mk HM0.out).cell
   have HM1 := Aside0.mk (HM0.out.set (u := .int .i64 (x1)) hp hx0 (.inr (.inl ⟨_,_,_,rfl,rfl⟩)))
   have HW1 := Aside0.mk (HW0.out.set (g := g) (o := x5.toNat * 5) false (v := .int .i64 (x1)) (by rw [HC0.out];rfl))
   have HC1 : Aside0 (wrap64 (x1 + 1) = k + ((cat Ls x5.toNat ++ [(g,x5.toNat * 5,false)]).length : Int)) := ⟨by have h1_ := HC0.out;have h2_ := HCL.out;rw [List.length_append,List.length_singleton];rw [wrap_in (n := x1 + 1)] <;> (push_cast;(try simp only [List.length_append,List.length_cons,List.length_nil,Nat.zero_add] at h1_);(try simp only [List.length_append,List.length_cons,List.length_nil,Nat.zero_add] at h2_);(try simp only [List.length_append,List.length_cons,List.length_nil,Nat.zero_add]);omega)⟩
   obtain ⟨m1,hx1,hf1⟩ := (i1.mk HM1.out).cell
   have HM2 := Aside0.mk (HM1.out.set (u := .int .i64 (wrap64 (x1 + 1))) hp hx1 (.inr (.inl ⟨_,_,_,rfl,rfl⟩)))
   have HW2 := Aside0.mk (HW1.out.set (g := g) (o := x5.toNat * 5 + 1) false (v := .int .i64 (wrap64 (x1 + 1))) (by rw [HC1.out];rfl))
   have HC2 : Aside0 (wrap64 (wrap64 (x1 + 1) + 1) = k + ((cat Ls x5.toNat ++ [(g,x5.toNat * 5,false)] ++ [(g,x5.toNat * 5 + 1,false)]).length : Int)) := ⟨by have h1_ := HC1.out;have h2_ := HCL.out;rw [List.length_append,List.length_singleton];rw [wrap_in (n := wrap64 (x1 + 1) + 1)] <;> (push_cast;(try simp only [List.length_append,List.length_cons,List.length_nil,Nat.zero_add] at h1_);(try simp only [List.length_append,List.length_cons,List.length_nil,Nat.zero_add] at h2_);(try simp only [List.length_append,List.length_cons,List.length_nil,Nat.zero_add]);omega)⟩
   obtain ⟨m2,hx2,hf2⟩ := (i2.mk HM2.out).cell
   have HM3 := Aside0.mk (HM2.out.set (u := .int .i64 (wrap64 (wrap64 (x1 + 1) + 1))) hp hx2 (.inr (.inl ⟨_,_,_,rfl,rfl⟩)))
   have HW3 := Aside0.mk (HW2.out.set (g := g) (o := x5.toNat * 5 + 2) false (v := .int .i64 (wrap64 (wrap64 (x1 + 1) + 1))) (by rw [HC2.out];rfl))
   have HC3 : Aside0 (wrap64 (wrap64 (wrap64 (x1 + 1) + 1) + 1) = k + ((cat Ls x5.toNat ++ [(g,x5.toNat * 5,false)] ++ [(g,x5.toNat * 5 + 1,false)] ++ [(g,x5.toNat * 5 + 2,false)]).length : Int)) := ⟨by have h1_ := HC2.out;have h2_ := HCL.out;rw [List.length_append,List.length_singleton];rw [wrap_in (n := wrap64 (wrap64 (x1 + 1) + 1) + 1)] <;> (push_cast;(try simp only [List.length_append,List.length_cons,List.length_nil,Nat.zero_add] at h1_);(try simp only [List.length_append,List.length_cons,List.length_nil,Nat.zero_add] at h2_);(try simp only [List.length_append,List.length_cons,List.length_nil,Nat.zero_add]);omega)⟩
   obtain ⟨m3,hx3,hf3⟩ := (i3.mk HM3.out).cell
   have HM4 := Aside0.mk (HM3.out.set (u := .int .i64 (wrap64 (wrap64 (wrap64 (x1 + 1) + 1) + 1))) hp hx3 (.inr (.inl ⟨_,_,_,rfl,rfl⟩)))
   have HW4 := Aside0.mk (HW3.out.set (g := g) (o := x5.toNat * 5 + 3) false (v := .int .i64 (wrap64 (wrap64 (wrap64 (x1 + 1) + 1) + 1))) (by rw [HC3.out];rfl))
   have HC4 : Aside0 (wrap64 (wrap64 (wrap64 (wrap64 (x1 + 1) + 1) + 1) + 1) = k + ((cat Ls x5.toNat ++ [(g,x5.toNat * 5,false)] ++ [(g,x5.toNat * 5 + 1,false)] ++ [(g,x5.toNat * 5 + 2,false)] ++ [(g,x5.toNat * 5 + 3,false)]).length : Int)) := ⟨by have h1_ := HC3.out;have h2_ := HCL.out;rw [List.length_append,List.length_singleton];rw [wrap_in (n := wrap64 (wrap64 (wrap64 (x1 + 1) + 1) + 1) + 1)] <;> (push_cast;(try simp only [List.length_append,List.length_cons,List.length_nil,Nat.zero_add] at h1_);(try simp only [List.length_append,List.length_cons,List.length_nil,Nat.zero_add] at h2_);(try simp only [List.length_append,List.length_cons,List.length_nil,Nat.zero_add]);omega)⟩
   obtain ⟨m4,hx4,hf4⟩ := (i4.mk HM4.out).cell
   have HM5 := Aside0.mk (HM4.out.set (u := .int .i64 (wrap64 (wrap64 (wrap64 (wrap64 (x1 + 1) + 1) + 1) + 1))) hp hx4 (.inr (.inl ⟨_,_,_,rfl,rfl⟩)))
   have HW5 := Aside0.mk (HW4.out.set (g := g) (o := x5.toNat * 5 + 4) false (v := .int .i64 (wrap64 (wrap64 (wrap64 (wrap64 (x1 + 1) + 1) + 1) + 1))) (by rw [HC4.out];rfl))
   have HC5 : Aside0 (wrap64 (wrap64 (wrap64 (wrap64 (wrap64 (x1 + 1) + 1) + 1) + 1) + 1) = k + ((cat Ls x5.toNat ++ [(g,x5.toNat * 5,false)] ++ [(g,x5.toNat * 5 + 1,false)] ++ [(g,x5.toNat * 5 + 2,false)] ++ [(g,x5.toNat * 5 + 3,false)] ++ [(g,x5.toNat * 5 + 4,false)]).length : Int)) := ⟨by have h1_ := HC4.out;have h2_ := HCL.out;rw [List.length_append,List.length_singleton];rw [wrap_in (n := wrap64 (wrap64 (wrap64 (wrap64 (x1 + 1) + 1) + 1) + 1) + 1)] <;> (push_cast;(try simp only [List.length_append,List.length_cons,List.length_nil,Nat.zero_add] at h1_);(try simp only [List.length_append,List.length_cons,List.length_nil,Nat.zero_add] at h2_);(try simp only [List.length_append,List.length_cons,List.length_nil,Nat.zero_add]);omega)⟩
   clear HJ jx cl hEl e5
   go_wp2
   go_roundg (n - x5.toNat - 1)
   case measure => omega
   case rel => exact ⟨_,_,rfl,rfl,⟨by have h1_ := HC5.out;have h5_ := HE5.out;refine ⟨by omega,by omega,?_⟩;rw [h1_];(try rw [h5_]);rw [show (x5 + 1).toNat = x5.toNat + 1 by omega,cs_,hE];(try simp only [List.append_assoc])⟩,HM5,⟨HW5.out.cast (by (try rw [HE5.out]);rw [show (x5 + 1).toNat = x5.toNat + 1 by omega,cs_,hE];(try simp only [List.append_assoc]))⟩⟩
  ·have c3b0 : decide (x5 < (n : Int)) = false := decide_eq_false c3
   have hx1 : x5.toNat = n := by omega
   rw [hx1] at jx HW0
   subst jx
   go_wp2
   go_ret
   exact ⟨rfl,HM0.out,HW0.out⟩
set_option maxHeartbeats 8000000 in
theorem wr_markNoteS (P : Nat → Prop) (w : World) (A : Option Addr) (n c : Nat) (k : Int) (L : List Cel) (h : RowV P w (.pair .int .int) A n L) (h0 : 0 ≤ k) (hk : k + (L.length : Int) ≤ 4611686018427387904) :
  Calls Try.prog 71 #[.slice A n c,.int .i64 k] w fun e w' => e = .returned (.int .i64 (k + (L.length : Int))) ∧ Mk P w w' ∧ Wr w L k w' := by
 obtain ⟨hn,Ls,rfl,h⟩ := h
 go_enter Try.func71,Try.ntmps71
 go_wp2
 go_loopg [1,5] n (fun kq v1 v5 w' => ∃ (x1 x5 : Int),v1 = .int .i64 x1 ∧ v5 = .int .i64 x5 ∧ Aside0 (0 ≤ x5 ∧ x5 + (kq : Int) = (n : Int) ∧ x1 = k + ((cat Ls x5.toNat).length : Int)) ∧ Aside0 (Mk P w w') ∧ Aside0 (Wr w (cat Ls x5.toNat) k w'))
 case atStart => exact ⟨k,0,rfl,rfl,⟨by simp [cat]⟩,⟨Mk.refl P w⟩,⟨Wr.refl w k⟩⟩
 case round =>
  obtain ⟨x1,x5,rfl,rfl,HJ,HM0,HW0⟩ := hrel
  obtain ⟨j0,j1,jx⟩ := HJ.out
  by_cases c3 : x5 < (n : Int)
  ·have c3b0 : decide (x5 < (n : Int)) = true := decide_eq_true c3
   obtain ⟨g,rfl,hp,hi⟩ := h (by omega)
   have cl := cat_le Ls (j := x5.toNat) (n := n) (by omega)
   have cs_ := cat_succ Ls x5.toNat
   have hv := hi x5.toNat (by omega)
   generalize hLs : Ls x5.toNat = E at cl cs_ hv
   obtain ⟨E0,D0,eE0,v0,r0⟩ := hv
   obtain ⟨e0,i0⟩ := v0
   have i0 : IntAt w g (x5.toNat * 2) := (by first | simpa using i0 | (simp [Ty.sz] at i0;exact i0) | exact i0)
   obtain ⟨e1,i1⟩ := r0
   have i1 : IntAt w g (x5.toNat * 2 + 1) := (by first | simpa using i1 | (simp [Ty.sz] at i1;exact i1) | exact i1)
   have hE : E = [(g,x5.toNat * 2,false)] ++ [(g,x5.toNat * 2 + 1,false)] := by
    rw [eE0];skip;(try rw [e0]);(try rw [e1]);(try first | rfl | simp [Ty.sz])
   have hEl : E.length = 1 + 1 := by rw [hE];(try simp only [List.length_append,List.length_cons,List.length_nil,Nat.zero_add])
   have p5 : (0 ≤ x5) = True := eq_true j0
   have q5 : (x5 < (n : Int)) = True := eq_true c3
   rw [hEl] at cl
   have e5 : wrap64 (x5 + 1) = x5 + 1 := wrap_in (by omega) (by omega)
   have HE5 := Aside0.mk e5
   have HC0 : Aside0 (x1 = k + ((cat Ls x5.toNat).length : Int)) := ⟨jx⟩
   have HCL := Aside0.mk cl
   obtain ⟨m0,hx0,hf0⟩ := (i0.mk HM0.out).cell
   have HM1 := Aside0.mk (HM0.out.set (u := .int .i64 (x1)) hp hx0 (.inr (.inl ⟨_,_,_,rfl,rfl⟩)))
   have HW1 := Aside0.mk (HW0.out.set (g := g) (o := x5.toNat * 2) false (v := .int .i64 (x1)) (by rw [HC0.out];rfl))
   have HC1 : Aside0 (wrap64 (x1 + 1) = k + ((cat Ls x5.toNat ++ [(g,x5.toNat * 2,false)]).length : Int)) := ⟨by have h1_ := HC0.out;have h2_ := HCL.out;rw [List.length_append,List.length_singleton];rw [wrap_in (n := x1 + 1)] <;> (push_cast;(try simp only [List.length_append,List.length_cons,List.length_nil,Nat.zero_add] at h1_);(try simp only [List.length_append,List.length_cons,List.length_nil,Nat.zero_add] at h2_);(try simp only [List.length_append,List.length_cons,List.length_nil,Nat.zero_add]);omega)⟩
   obtain ⟨m1,hx1,hf1⟩ := (i1.mk HM1.out).cell
   have HM2 := Aside0.mk (HM1.out.set (u := .int .i64 (wrap64 (x1 + 1))) hp hx1 (.inr (.inl ⟨_,_,_,rfl,rfl⟩)))
   have HW2 := Aside0.mk (HW1.out.set (g := g) (o := x5.toNat * 2 + 1) false (v := .int .i64 (wrap64 (x1 + 1))) (by rw [HC1.out];rfl))
   have HC2 : Aside0 (wrap64 (wrap64 (x1 + 1) + 1) = k + ((cat Ls x5.toNat ++ [(g,x5.toNat * 2,false)] ++ [(g,x5.toNat * 2 + 1,false)]).length : Int)) := ⟨by have h1_ := HC1.out;have h2_ := HCL.out;rw [List.length_append,List.length_singleton];rw [wrap_in (n := wrap64 (x1 + 1) + 1)] <;> (push_cast;(try simp only [List.length_append,List.length_cons,List.length_nil,Nat.zero_add] at h1_);(try simp only [List.length_append,List.length_cons,List.length_nil,Nat.zero_add] at h2_);(try simp only [List.length_append,List.length_cons,List.length_nil,Nat.zero_add]);omega)⟩
   clear HJ jx cl hEl e5
   go_wp2
   go_roundg (n - x5.toNat - 1)
   case measure => omega
   case rel => exact ⟨_,_,rfl,rfl,⟨by have h1_ := HC2.out;have h5_ := HE5.out;refine ⟨by omega,by omega,?_⟩;rw [h1_];(try rw [h5_]);rw [show (x5 + 1).toNat = x5.toNat + 1 by omega,cs_,hE];(try simp only [List.append_assoc])⟩,HM2,⟨HW2.out.cast (by (try rw [HE5.out]);rw [show (x5 + 1).toNat = x5.toNat + 1 by omega,cs_,hE];(try simp only [List.append_assoc]))⟩⟩
  ·have c3b0 : decide (x5 < (n : Int)) = false := decide_eq_false c3
   have hx1 : x5.toNat = n := by omega
   rw [hx1] at jx HW0
   subst jx
   go_wp2
   go_ret
   exact ⟨rfl,HM0.out,HW0.out⟩
set_option maxHeartbeats 8000000 in
theorem wr_markThreadS (P : Nat → Prop) (w : World) (A : Option Addr) (n c : Nat) (k : Int) (L : List Cel) (h : RowV P w (.pair .int (.pair (.sl .int) .int)) A n L) (h0 : 0 ≤ k) (hk : k + (L.length : Int) ≤ 4611686018427387904) :
  Calls Try.prog 69 #[.slice A n c,.int .i64 k] w fun e w' => e = .returned (.int .i64 (k + (L.length : Int))) ∧ Mk P w w' ∧ Wr w L k w' := by
 obtain ⟨hn,Ls,rfl,h⟩ := h
 go_enter Try.func69,Try.ntmps69
 go_wp2
 go_loopg [1,5] n (fun kq v1 v5 w' => ∃ (x1 x5 : Int),v1 = .int .i64 x1 ∧ v5 = .int .i64 x5 ∧ Aside0 (0 ≤ x5 ∧ x5 + (kq : Int) = (n : Int) ∧ x1 = k + ((cat Ls x5.toNat).length : Int)) ∧ Aside0 (Mk P w w') ∧ Aside0 (Wr w (cat Ls x5.toNat) k w'))
 case atStart => exact ⟨k,0,rfl,rfl,⟨by simp [cat]⟩,⟨Mk.refl P w⟩,⟨Wr.refl w k⟩⟩
 case round =>
  obtain ⟨x1,x5,rfl,rfl,HJ,HM0,HW0⟩ := hrel
  obtain ⟨j0,j1,jx⟩ := HJ.out
  by_cases c3 : x5 < (n : Int)
  ·have c3b0 : decide (x5 < (n : Int)) = true := decide_eq_true c3
   obtain ⟨g,rfl,hp,hi⟩ := h (by omega)
   have cl := cat_le Ls (j := x5.toNat) (n := n) (by omega)
   have cs_ := cat_succ Ls x5.toNat
   have hv := hi x5.toNat (by omega)
   generalize hLs : Ls x5.toNat = E at cl cs_ hv
   obtain ⟨E0,D0,eE0,v0,r0⟩ := hv
   obtain ⟨e0,i0⟩ := v0
   have i0 : IntAt w g (x5.toNat * 3) := (by first | simpa using i0 | (simp [Ty.sz] at i0;exact i0) | exact i0)
   obtain ⟨E1,D1,eE1,v1,r1⟩ := r0
   obtain ⟨B1,n1,c1,s1,V1⟩ := v1
   have s1 : SlAt w g (x5.toNat * 3 + 1) B1 n1 c1 := (by first | simpa using s1 | (simp [Ty.sz] at s1;exact s1) | exact s1)
   have V1 : ∃ M,E1 = M ∧ RowV P w .int B1 n1 M := ⟨_,rfl,V1⟩
   obtain ⟨M1,eM1,V1⟩ := V1
   obtain ⟨e2,i2⟩ := r1
   have i2 : IntAt w g (x5.toNat * 3 + 2) := (by first | simpa using i2 | (simp [Ty.sz] at i2;exact i2) | exact i2)
   have hE : E = [(g,x5.toNat * 3,false)] ++ M1 ++ [(g,x5.toNat * 3 + 2,false)] := by
    rw [eE0,eE1];skip;(try rw [e0]);(try rw [eM1]);(try rw [e2]);(try first | rfl | simp [Ty.sz])
   have hEl : E.length = 1 + M1.length + 1 := by rw [hE];(try simp only [List.length_append,List.length_cons,List.length_nil,Nat.zero_add])
   have p5 : (0 ≤ x5) = True := eq_true j0
   have q5 : (x5 < (n : Int)) = True := eq_true c3
   rw [hEl] at cl
   have e5 : wrap64 (x5 + 1) = x5 + 1 := wrap_in (by omega) (by omega)
   have HE5 := Aside0.mk e5
   have HC0 : Aside0 (x1 = k + ((cat Ls x5.toNat).length : Int)) := ⟨jx⟩
   have HCL := Aside0.mk cl
   obtain ⟨m0,hx0,hf0⟩ := (i0.mk HM0.out).cell
   have HM1 := Aside0.mk (HM0.out.set (u := .int .i64 (x1)) hp hx0 (.inr (.inl ⟨_,_,_,rfl,rfl⟩)))
   have HW1 := Aside0.mk (HW0.out.set (g := g) (o := x5.toNat * 3) false (v := .int .i64 (x1)) (by rw [HC0.out];rfl))
   have HC1 : Aside0 (wrap64 (x1 + 1) = k + ((cat Ls x5.toNat ++ [(g,x5.toNat * 3,false)]).length : Int)) := ⟨by have h1_ := HC0.out;have h2_ := HCL.out;rw [List.length_append,List.length_singleton];rw [wrap_in (n := x1 + 1)] <;> (push_cast;(try simp only [List.length_append,List.length_cons,List.length_nil,Nat.zero_add] at h1_);(try simp only [List.length_append,List.length_cons,List.length_nil,Nat.zero_add] at h2_);(try simp only [List.length_append,List.length_cons,List.length_nil,Nat.zero_add]);omega)⟩
   have hs1 := (s1.mk HM1.out).cell
   have hV1 := Aside0.mk (V1.mk HM1.out)
   have HH1 : Aside0 (0 ≤ wrap64 (x1 + 1) ∧ wrap64 (x1 + 1) + (M1.length : Int) ≤ 4611686018427387904) := ⟨by have h1_ := HC1.out;have h2_ := HCL.out;(try simp only [List.length_append,List.length_cons,List.length_nil,Nat.zero_add] at h1_);(try simp only [List.length_append,List.length_cons,List.length_nil,Nat.zero_add] at h2_);omega⟩
   clear HJ jx cl hEl e5
   go_wp2_with (first | ((with_reducible refine gate_callee (f := 40) rfl ?_);refine goesL_ (some 25) rfl rfl Try.func40 (by kernel_rfl) rfl #[.slice B1 n1 c1,.int .i64 (wrap64 (x1 + 1))] rfl (by (try simp only [List.map_toArray,List.map_cons,List.map_nil]);first | done | rfl | (simp;done)) ?_;refine (wr_markIntS P _ B1 n1 c1 (wrap64 (x1 + 1)) M1 hV1.out HH1.out.1 HH1.out.2).mono ?_;rintro e w3 ⟨rfl,hm,hw⟩;refine ⟨_,rfl,?_⟩;have HM2 := Aside0.mk (HM1.out.trans hm);have HW2 := Aside0.mk (HW1.out.trans hw HC1.out);clear hm hw;have HC2 : Aside0 (wrap64 (x1 + 1) + (M1.length : Int) = k + ((cat Ls x5.toNat ++ [(g,x5.toNat * 3,false)] ++ M1).length : Int)) := ⟨by have h1_ := HC1.out;rw [List.length_append];push_cast;omega⟩;obtain ⟨m2,hx2,hf2⟩ := (i2.mk HM2.out).cell;have HM3 := Aside0.mk (HM2.out.set (u := .int .i64 (wrap64 (x1 + 1) + (M1.length : Int))) hp hx2 (.inr (.inl ⟨_,_,_,rfl,rfl⟩)));have HW3 := Aside0.mk (HW2.out.set (g := g) (o := x5.toNat * 3 + 2) false (v := .int .i64 (wrap64 (x1 + 1) + (M1.length : Int))) (by rw [HC2.out];rfl));have HC3 : Aside0 (wrap64 (wrap64 (x1 + 1) + (M1.length : Int) + 1) = k + ((cat Ls x5.toNat ++ [(g,x5.toNat * 3,false)] ++ M1 ++ [(g,x5.toNat * 3 + 2,false)]).length : Int)) := ⟨by have h1_ := HC2.out;have h2_ := HCL.out;rw [List.length_append,List.length_singleton];rw [wrap_in (n := wrap64 (x1 + 1) + (M1.length : Int) + 1)] <;> (push_cast;(try simp only [List.length_append,List.length_cons,List.length_nil,Nat.zero_add] at h1_);(try simp only [List.length_append,List.length_cons,List.length_nil,Nat.zero_add] at h2_);(try simp only [List.length_append,List.length_cons,List.length_nil,Nat.zero_add]);omega)⟩))
   go_roundg (n - x5.toNat - 1)
   case measure => omega
   case rel => exact ⟨_,_,rfl,rfl,⟨by have h1_ := HC3.out;have h5_ := HE5.out;refine ⟨by omega,by omega,?_⟩;rw [h1_];(try rw [h5_]);rw [show (x5 + 1).toNat = x5.toNat + 1 by omega,cs_,hE];(try simp only [List.append_assoc])⟩,HM3,⟨HW3.out.cast (by (try rw [HE5.out]);rw [show (x5 + 1).toNat = x5.toNat + 1 by omega,cs_,hE];(try simp only [List.append_assoc]))⟩⟩
  ·have c3b0 : decide (x5 < (n : Int)) = false := decide_eq_false c3
   have hx1 : x5.toNat = n := by omega
   rw [hx1] at jx HW0
   subst jx
   go_wp2
   go_ret
   exact ⟨rfl,HM0.out,HW0.out⟩
set_option maxHeartbeats 8000000 in
theorem wr_markChanS (P : Nat → Prop) (w : World) (A : Option Addr) (n c : Nat) (k : Int) (L : List Cel) (h : RowV P w (.pair .int (.pair (.sl .int) .bool)) A n L) (h0 : 0 ≤ k) (hk : k + (L.length : Int) ≤ 4611686018427387904) :
  Calls Try.prog 70 #[.slice A n c,.int .i64 k] w fun e w' => e = .returned (.int .i64 (k + (L.length : Int))) ∧ Mk P w w' ∧ Wr w L k w' := by
 obtain ⟨hn,Ls,rfl,h⟩ := h
 go_enter Try.func70,Try.ntmps70
 go_wp2
 go_loopg [1,5] n (fun kq v1 v5 w' => ∃ (x1 x5 : Int),v1 = .int .i64 x1 ∧ v5 = .int .i64 x5 ∧ Aside0 (0 ≤ x5 ∧ x5 + (kq : Int) = (n : Int) ∧ x1 = k + ((cat Ls x5.toNat).length : Int)) ∧ Aside0 (Mk P w w') ∧ Aside0 (Wr w (cat Ls x5.toNat) k w'))
 case atStart => exact ⟨k,0,rfl,rfl,⟨by simp [cat]⟩,⟨Mk.refl P w⟩,⟨Wr.refl w k⟩⟩
 case round =>
  obtain ⟨x1,x5,rfl,rfl,HJ,HM0,HW0⟩ := hrel
  obtain ⟨j0,j1,jx⟩ := HJ.out
  by_cases c3 : x5 < (n : Int)
  ·have c3b0 : decide (x5 < (n : Int)) = true := decide_eq_true c3
   obtain ⟨g,rfl,hp,hi⟩ := h (by omega)
   have cl := cat_le Ls (j := x5.toNat) (n := n) (by omega)
   have cs_ := cat_succ Ls x5.toNat
   have hv := hi x5.toNat (by omega)
   generalize hLs : Ls x5.toNat = E at cl cs_ hv
   obtain ⟨E0,D0,eE0,v0,r0⟩ := hv
   obtain ⟨e0,i0⟩ := v0
   have i0 : IntAt w g (x5.toNat * 3) := (by first | simpa using i0 | (simp [Ty.sz] at i0;exact i0) | exact i0)
   obtain ⟨E1,D1,eE1,v1,r1⟩ := r0
   obtain ⟨B1,n1,c1,s1,V1⟩ := v1
   have s1 : SlAt w g (x5.toNat * 3 + 1) B1 n1 c1 := (by first | simpa using s1 | (simp [Ty.sz] at s1;exact s1) | exact s1)
   have V1 : ∃ M,E1 = M ∧ RowV P w .int B1 n1 M := ⟨_,rfl,V1⟩
   obtain ⟨M1,eM1,V1⟩ := V1
   obtain ⟨e2,i2⟩ := r1
   have i2 : BoolAt w g (x5.toNat * 3 + 2) := (by first | simpa using i2 | (simp [Ty.sz] at i2;exact i2) | exact i2)
   have hE : E = [(g,x5.toNat * 3,false)] ++ M1 ++ [(g,x5.toNat * 3 + 2,true)] := by
    rw [eE0,eE1];skip;(try rw [e0]);(try rw [eM1]);(try rw [e2]);(try first | rfl | simp [Ty.sz])
   have hEl : E.length = 1 + M1.length + 1 := by rw [hE];(try simp only [List.length_append,List.length_cons,List.length_nil,Nat.zero_add])
   have p5 : (0 ≤ x5) = True := eq_true j0
   have q5 : (x5 < (n : Int)) = True := eq_true c3
   rw [hEl] at cl
   have e5 : wrap64 (x5 + 1) = x5 + 1 := wrap_in (by omega) (by omega)
   have HE5 := Aside0.mk e5
   have HC0 : Aside0 (x1 = k + ((cat Ls x5.toNat).length : Int)) := ⟨jx⟩
   have HCL := Aside0.mk cl
   obtain ⟨m0,hx0,hf0⟩ := (i0.mk HM0.out).cell
   have HM1 := Aside0.mk (HM0.out.set (u := .int .i64 (x1)) hp hx0 (.inr (.inl ⟨_,_,_,rfl,rfl⟩)))
   have HW1 := Aside0.mk (HW0.out.set (g := g) (o := x5.toNat * 3) false (v := .int .i64 (x1)) (by rw [HC0.out];rfl))
   have HC1 : Aside0 (wrap64 (x1 + 1) = k + ((cat Ls x5.toNat ++ [(g,x5.toNat * 3,false)]).length : Int)) := ⟨by have h1_ := HC0.out;have h2_ := HCL.out;rw [List.length_append,List.length_singleton];rw [wrap_in (n := x1 + 1)] <;> (push_cast;(try simp only [List.length_append,List.length_cons,List.length_nil,Nat.zero_add] at h1_);(try simp only [List.length_append,List.length_cons,List.length_nil,Nat.zero_add] at h2_);(try simp only [List.length_append,List.length_cons,List.length_nil,Nat.zero_add]);omega)⟩
   have hs1 := (s1.mk HM1.out).cell
   have hV1 := Aside0.mk (V1.mk HM1.out)
   have HH1 : Aside0 (0 ≤ wrap64 (x1 + 1) ∧ wrap64 (x1 + 1) + (M1.length : Int) ≤ 4611686018427387904) := ⟨by have h1_ := HC1.out;have h2_ := HCL.out;(try simp only [List.length_append,List.length_cons,List.length_nil,Nat.zero_add] at h1_);(try simp only [List.length_append,List.length_cons,List.length_nil,Nat.zero_add] at h2_);omega⟩
   clear HJ jx cl hEl e5
   go_wp2_with (first | ((with_reducible refine gate_callee (f := 40) rfl ?_);refine goesL_ (some 25) rfl rfl Try.func40 (by kernel_rfl) rfl #[.slice B1 n1 c1,.int .i64 (wrap64 (x1 + 1))] rfl (by (try simp only [List.map_toArray,List.map_cons,List.map_nil]);first | done | rfl | (simp;done)) ?_;refine (wr_markIntS P _ B1 n1 c1 (wrap64 (x1 + 1)) M1 hV1.out HH1.out.1 HH1.out.2).mono ?_;rintro e w3 ⟨rfl,hm,hw⟩;refine ⟨_,rfl,?_⟩;have HM2 := Aside0.mk (HM1.out.trans hm);have HW2 := Aside0.mk (HW1.out.trans hw HC1.out);clear hm hw;have HC2 : Aside0 (wrap64 (x1 + 1) + (M1.length : Int) = k + ((cat Ls x5.toNat ++ [(g,x5.toNat * 3,false)] ++ M1).length : Int)) := ⟨by have h1_ := HC1.out;rw [List.length_append];push_cast;omega⟩;obtain ⟨m2,hx2,hf2⟩ := (i2.mk HM2.out).cell;have HM3 := Aside0.mk (HM2.out.set (u := .bool (decide (Int.tmod (wrap64 (x1 + 1) + (M1.length : Int)) 3 = 0))) hp hx2 (.inr (.inr ⟨_,_,rfl,rfl⟩)));have HW3 := Aside0.mk (HW2.out.set (g := g) (o := x5.toNat * 3 + 2) true (v := .bool (decide (Int.tmod (wrap64 (x1 + 1) + (M1.length : Int)) 3 = 0))) (by rw [HC2.out];rfl));have HC3 : Aside0 (wrap64 (wrap64 (x1 + 1) + (M1.length : Int) + 1) = k + ((cat Ls x5.toNat ++ [(g,x5.toNat * 3,false)] ++ M1 ++ [(g,x5.toNat * 3 + 2,true)]).length : Int)) := ⟨by have h1_ := HC2.out;have h2_ := HCL.out;rw [List.length_append,List.length_singleton];rw [wrap_in (n := wrap64 (x1 + 1) + (M1.length : Int) + 1)] <;> (push_cast;(try simp only [List.length_append,List.length_cons,List.length_nil,Nat.zero_add] at h1_);(try simp only [List.length_append,List.length_cons,List.length_nil,Nat.zero_add] at h2_);(try simp only [List.length_append,List.length_cons,List.length_nil,Nat.zero_add]);omega)⟩))
   go_roundg (n - x5.toNat - 1)
   case measure => omega
   case rel => exact ⟨_,_,rfl,rfl,⟨by have h1_ := HC3.out;have h5_ := HE5.out;refine ⟨by omega,by omega,?_⟩;rw [h1_];(try rw [h5_]);rw [show (x5 + 1).toNat = x5.toNat + 1 by omega,cs_,hE];(try simp only [List.append_assoc])⟩,HM3,⟨HW3.out.cast (by (try rw [HE5.out]);rw [show (x5 + 1).toNat = x5.toNat + 1 by omega,cs_,hE];(try simp only [List.append_assoc]))⟩⟩
  ·have c3b0 : decide (x5 < (n : Int)) = false := decide_eq_false c3
   have hx1 : x5.toNat = n := by omega
   rw [hx1] at jx HW0
   subst jx
   go_wp2
   go_ret
   exact ⟨rfl,HM0.out,HW0.out⟩
set_option maxHeartbeats 8000000 in
theorem wr_markInsSS (P : Nat → Prop) (w : World) (A : Option Addr) (n c : Nat) (k : Int) (L : List Cel) (h : RowV P w (.sl (.pair .int (.pair .int (.pair .int (.pair .int .int))))) A n L) (h0 : 0 ≤ k) (hk : k + (L.length : Int) ≤ 4611686018427387904) :
  Calls Try.prog 68 #[.slice A n c,.int .i64 k] w fun e w' => e = .returned (.int .i64 (k + (L.length : Int))) ∧ Mk P w w' ∧ Wr w L k w' := by
 obtain ⟨hn,Ls,rfl,h⟩ := h
 go_enter Try.func68,Try.ntmps68
 go_wp2
 go_loopg [1,5] n (fun kq v1 v5 w' => ∃ (x1 x5 : Int),v1 = .int .i64 x1 ∧ v5 = .int .i64 x5 ∧ Aside0 (0 ≤ x5 ∧ x5 + (kq : Int) = (n : Int) ∧ x1 = k + ((cat Ls x5.toNat).length : Int)) ∧ Aside0 (Mk P w w') ∧ Aside0 (Wr w (cat Ls x5.toNat) k w'))
 case atStart => exact ⟨k,0,rfl,rfl,⟨by simp [cat]⟩,⟨Mk.refl P w⟩,⟨Wr.refl w k⟩⟩
 case round =>
  obtain ⟨x1,x5,rfl,rfl,HJ,HM0,HW0⟩ := hrel
  obtain ⟨j0,j1,jx⟩ := HJ.out
  by_cases c3 : x5 < (n : Int)
  ·have c3b0 : decide (x5 < (n : Int)) = true := decide_eq_true c3
   obtain ⟨g,rfl,hp,hi⟩ := h (by omega)
   have cl := cat_le Ls (j := x5.toNat) (n := n) (by omega)
   have cs_ := cat_succ Ls x5.toNat
   have hv := hi x5.toNat (by omega)
   generalize hLs : Ls x5.toNat = E at cl cs_ hv
   obtain ⟨B0,n0,c0,s0,V0⟩ := hv
   have s0 : SlAt w g (x5.toNat) B0 n0 c0 := (by first | simpa using s0 | (simp [Ty.sz] at s0;exact s0) | exact s0)
   have V0 : ∃ M,E = M ∧ RowV P w (.pair .int (.pair .int (.pair .int (.pair .int .int)))) B0 n0 M := ⟨_,rfl,V0⟩
   obtain ⟨M0,eM0,V0⟩ := V0
   have hE : E = M0 := by
    skip;(try rw [eM0]);(try first | rfl | simp [Ty.sz])
   have hEl : E.length = M0.length := by rw [hE];(try simp only [List.length_append,List.length_cons,List.length_nil,Nat.zero_add])
   have p5 : (0 ≤ x5) = True := eq_true j0
   have q5 : (x5 < (n : Int)) = True := eq_true c3
   rw [hEl] at cl
   have e5 : wrap64 (x5 + 1) = x5 + 1 := wrap_in (by omega) (by omega)
   have HE5 := Aside0.mk e5
   have HC0 : Aside0 (x1 = k + ((cat Ls x5.toNat).length : Int)) := ⟨jx⟩
   have HCL := Aside0.mk cl
   have hs0 := (s0.mk HM0.out).cell
   have hV0 := Aside0.mk (V0.mk HM0.out)
   have HH0 : Aside0 (0 ≤ x1 ∧ x1 + (M0.length : Int) ≤ 4611686018427387904) := ⟨by have h1_ := HC0.out;have h2_ := HCL.out;(try simp only [List.length_append,List.length_cons,List.length_nil,Nat.zero_add] at h1_);(try simp only [List.length_append,List.length_cons,List.length_nil,Nat.zero_add] at h2_);omega⟩
   clear HJ jx cl hEl e5
   go_wp2_with (first | ((with_reducible refine gate_callee (f := 131) rfl ?_);refine goesL_ (some 17) rfl rfl Try.func131 (by kernel_rfl) rfl #[.slice B0 n0 c0,.int .i64 (x1)] rfl (by (try simp only [List.map_toArray,List.map_cons,List.map_nil]);first | done | rfl | (simp;done)) ?_;refine (wr_markInsS P _ B0 n0 c0 (x1) M0 hV0.out HH0.out.1 HH0.out.2).mono ?_;rintro e w2 ⟨rfl,hm,hw⟩;refine ⟨_,rfl,?_⟩;have HM1 := Aside0.mk (HM0.out.trans hm);have HW1 := Aside0.mk (HW0.out.trans hw HC0.out);clear hm hw;have HC1 : Aside0 (x1 + (M0.length : Int) = k + ((cat Ls x5.toNat ++ M0).length : Int)) := ⟨by have h1_ := HC0.out;rw [List.length_append];push_cast;omega⟩))
   go_roundg (n - x5.toNat - 1)
   case measure => omega
   case rel => exact ⟨_,_,rfl,rfl,⟨by have h1_ := HC1.out;have h5_ := HE5.out;refine ⟨by omega,by omega,?_⟩;rw [h1_];(try rw [h5_]);rw [show (x5 + 1).toNat = x5.toNat + 1 by omega,cs_,hE];(try simp only [List.append_assoc])⟩,HM1,⟨HW1.out.cast (by (try rw [HE5.out]);rw [show (x5 + 1).toNat = x5.toNat + 1 by omega,cs_,hE];(try simp only [List.append_assoc]))⟩⟩
  ·have c3b0 : decide (x5 < (n : Int)) = false := decide_eq_false c3
   have hx1 : x5.toNat = n := by omega
   rw [hx1] at jx HW0
   subst jx
   go_wp2
   go_ret
   exact ⟨rfl,HM0.out,HW0.out⟩
def addr2 (c : Cel) : Nat × Nat := (c.1,c.2.1)
def CellAt (w : World) (g o : Nat) : Prop := ∃ (cs : Array Value) (t : TypeId),w.heap[g]? = some (.cells cs t (0,0)) ∧ o < cs.size
section
variable {P Q : Nat → Prop} {w w' w0 w1 w2 W W' : World} {g o n : Nat} {k k2 : Int} {L M : List Cel} {A : Option Addr} {t : Ty}
theorem CellAt.set (h : CellAt w g o) (b p : Nat) (v : Value) : CellAt (w.setCell ⟨b,p,none⟩ v) g o := by
 obtain ⟨cs,t,h1,h2⟩ := h
 by_cases e : g = b
 ·subst e
  exact ⟨_,t,blk_set h1 p v,by simpa using h2⟩
 ·exact ⟨cs,t,blk_far h1 (p := ⟨b,p,none⟩) e v,h2⟩
theorem IntAt.at_ (h : IntAt w g o) : CellAt w g o := by
 obtain ⟨cs,t,n,h1,h2⟩ := h
 exact ⟨cs,t,h1,(Array.getElem?_eq_some_iff.1 h2).1⟩
theorem BoolAt.at_ (h : BoolAt w g o) : CellAt w g o := by
 obtain ⟨cs,t,n,h1,h2⟩ := h
 exact ⟨cs,t,h1,(Array.getElem?_eq_some_iff.1 h2).1⟩
theorem CellAt.self (h : CellAt w g o) (v : Value) : (w.setCell ⟨g,o,none⟩ v).cell? ⟨g,o,none⟩ = some v := by
 obtain ⟨cs,t,h1,h2⟩ := h
 rw [blk_cell (blk_set h1 o v) o,Array.getElem?_setIfInBounds_self]
 simp [h2]
theorem writes_other : ∀ (L : List Cel) (w : World) (k : Int) (g o : Nat),(g,o) ∉ L.map addr2 → (writes w L k).cell? ⟨g,o,none⟩ = w.cell? ⟨g,o,none⟩
 | [],w,k,g,o,_ => rfl
 | c :: L,w,k,g,o,h => by
  rw [List.map_cons,List.mem_cons,not_or] at h
  rw [writes,writes_other L _ _ _ _ h.2]
  exact World.cell?_setCell_other (w := w) (a := ⟨c.1,c.2.1,none⟩) (b := ⟨g,o,none⟩) (v := cellv c.2.2 k) (h := fun e => h.1 (by injection e with e1 e2;rw [addr2,e1,e2]))
theorem held_writes : ∀ (L : List Cel) (w : World) (k : Int),(∀ c ∈ L,CellAt w c.1 c.2.1) → (L.map addr2).Nodup → HeldAt (writes w L k) L k
 | [],w,k,_,_ => fun j c hj => by simp at hj
 | c :: L,w,k,hc,hn => by
  rw [List.map_cons,List.nodup_cons] at hn
  intro j d hj
  cases j with
  | zero =>
   have e : d = c := by simpa using hj.symm
   subst e
   rw [writes,writes_other L _ _ d.1 d.2.1 (by exact hn.1),(hc d List.mem_cons_self).self]
   simp
  | succ j =>
   have h2 := held_writes L (w.setCell ⟨c.1,c.2.1,none⟩ (cellv c.2.2 k)) (k + 1) (fun d hd => (hc d (List.mem_cons_of_mem _ hd)).set _ _ _) hn.2 j d (by simpa using hj)
   rw [writes,h2]
   congr 2
   push_cast
   omega
theorem HeldAt.of_heap (h : HeldAt w L k) (hh : ∀ c ∈ L,w'.heap[c.1]? = w.heap[c.1]?) : HeldAt w' L k := fun j c hj => by
 have := hh c (List.mem_of_getElem? hj)
 rw [← h j c hj]
 simp [World.cell?,this]
theorem set_heap (w w' : World) (a : Addr) (v : Value) (g : Nat) (h : w.heap[g]? = w'.heap[g]?) : (w.setCell a v).heap[g]? = (w'.setCell a v).heap[g]? := by
 simp only [World.setCell,Array.getElem?_modify,h]
theorem writes_local : ∀ (L : List Cel) (w w' : World) (k : Int) (g : Nat),w.heap[g]? = w'.heap[g]? → (writes w L k).heap[g]? = (writes w' L k).heap[g]?
 | [],w,w',k,g,h => h
 | c :: L,w,w',k,g,h => by
  rw [writes,writes]
  exact writes_local L _ _ _ g (set_heap _ _ _ _ _ h)
def WrB (w : World) (L : List Cel) (k : Int) (w' : World) : Prop := ∀ g,g < w.heap.size → w'.heap[g]? = (writes w L k).heap[g]?
theorem Wr.B (h : Wr w L k w') : WrB w L k w' := by
 obtain ⟨n,rfl⟩ := h
 exact fun g _ => rfl
theorem WrB.nil (hb : Below w.heap.size w w') : WrB w [] k w' := fun g hg => hb.block g hg
theorem WrB.trans (h : WrB w L k w1) (hs : w.heap.size ≤ w1.heap.size) (h2 : WrB w1 M k2 w2) (e : k2 = k + L.length) : WrB w (L ++ M) k w2 := fun g hg => by
 rw [h2 g (Nat.lt_of_lt_of_le hg hs),writes_append,e]
 exact writes_local M _ _ _ g (h g hg)
theorem WrB.held (h : WrB w L k w') (hc : ∀ c ∈ L,CellAt w c.1 c.2.1) (hn : (L.map addr2).Nodup) : HeldAt w' L k :=
 (held_writes L w k hc hn).of_heap (fun c hm => by
  obtain ⟨cs,t,h1,_⟩ := hc c hm
  exact h c.1 (blk_lt h1))
theorem Vis.cells : ∀ {t : Ty} {g o : Nat} {L : List Cel},Vis P w t g o L → ∀ c ∈ L,CellAt w c.1 c.2.1 ∧ (c.1 = g ∨ P c.1)
 | .int,g,o,L,h,c,hm => by
  obtain ⟨rfl,h2⟩ := h
  obtain rfl := List.mem_singleton.1 hm
  exact ⟨h2.at_,.inl rfl⟩
 | .bool,g,o,L,h,c,hm => by
  obtain ⟨rfl,h2⟩ := h
  obtain rfl := List.mem_singleton.1 hm
  exact ⟨h2.at_,.inl rfl⟩
 | .pair a b,g,o,L,⟨L1,L2,e,h1,h2⟩,c,hm => by
  subst e
  rcases List.mem_append.1 hm with hm | hm
  ·exact Vis.cells h1 c hm
  ·exact Vis.cells h2 c hm
 | .sl a,g,o,L,⟨A,n,cp,hs,hb,Ls,e,h⟩,c,hm => by
  subst e
  obtain ⟨i,hi,hm⟩ := List.mem_flatMap.1 hm
  rw [List.mem_range] at hi
  obtain ⟨g',e',hp,hv⟩ := h (by omega)
  obtain ⟨h1,h2⟩ := Vis.cells (hv i hi) c hm
  exact ⟨h1,.inr (h2.elim (fun e => e ▸ hp) id)⟩
theorem RowV.cells (h : RowV P w t A n L) : ∀ c ∈ L,CellAt w c.1 c.2.1 ∧ P c.1 := fun c hm => by
 obtain ⟨hb,Ls,e,h⟩ := h
 subst e
 obtain ⟨i,hi,hm⟩ := List.mem_flatMap.1 hm
 rw [List.mem_range] at hi
 obtain ⟨g',e',hp,hv⟩ := h (by omega)
 obtain ⟨h1,h2⟩ := Vis.cells (hv i hi) c hm
 exact ⟨h1,h2.elim (fun e => e ▸ hp) id⟩
theorem Vis.mono (hp : ∀ k,P k → Q k) : ∀ {t : Ty} {g o : Nat} {L : List Cel},Vis P w t g o L → Vis Q w t g o L
 | .int,_,_,_,h => h
 | .bool,_,_,_,h => h
 | .pair a b,_,_,_,⟨L1,L2,e,h1,h2⟩ => ⟨L1,L2,e,Vis.mono hp h1,Vis.mono hp h2⟩
 | .sl a,_,_,_,⟨A,n,c,hs,hb,Ls,e,h⟩ => ⟨A,n,c,hs,hb,Ls,e,fun hn => by
  obtain ⟨g',e',hp',hi⟩ := h hn
  exact ⟨g',e',hp _ hp',fun i hl => Vis.mono hp (hi i hl)⟩⟩
theorem RowV.mono (hp : ∀ k,P k → Q k) (h : RowV P w t A n L) : RowV Q w t A n L := by
 obtain ⟨hb,Ls,e,h⟩ := h
 exact ⟨hb,Ls,e,fun hn => by
  obtain ⟨g',e',hp',hi⟩ := h hn
  exact ⟨g',e',hp _ hp',fun i hl => Vis.mono hp (hi i hl)⟩⟩
end
structure Rep {α : Type} (d : Kd α) (T : Ty) (wt : α → Nat) : Prop where
  sz : d.sz = T.sz
  vis : ∀ {w : World} {base : Nat} {ok : Nat → Prop} {x : α} {cs : List Value},d.M w base ok x cs → ∀ (g o : Nat) (cells : Array Value) (t : TypeId),w.heap[g]? = some (.cells cells t (0,0)) → (∀ i u,cs[i]? = some u → cells[o + i]? = some u) → ∃ L,Vis ok w T g o L ∧ L.length = wt x
theorem Rep.int : Rep (Kd.int .i64) .int (fun _ => 1) := ⟨rfl,fun {w base ok x cs} hM g o cells t hb hc => by
 have e : cs = [.int .i64 x] := hM
 subst e
 exact ⟨_,⟨rfl,cells,t,x,hb,by simpa using hc 0 _ rfl⟩,rfl⟩⟩
theorem Rep.bool : Rep Kd.bool .bool (fun _ => 1) := ⟨rfl,fun {w base ok x cs} hM g o cells t hb hc => by
 have e : cs = [.bool x] := hM
 subst e
 exact ⟨_,⟨rfl,cells,t,x,hb,by simpa using hc 0 _ rfl⟩,rfl⟩⟩
theorem Rep.pair {α β : Type} {a : Kd α} {b : Kd β} {S T : Ty} {wa : α → Nat} {wb : β → Nat} (ha : Rep a S wa) (hb : Rep b T wb) : Rep (Kd.pair a b) (.pair S T) (fun x => wa x.1 + wb x.2) :=
 ⟨by show a.sz + b.sz = S.sz + T.sz;rw [ha.sz,hb.sz],fun {w base ok x cs} hM g o cells t hbk hc => by
  obtain ⟨c0,c1,rfl,h0,h1⟩ := hM
  have l0 : c0.length = S.sz := by rw [a.K_len (a.K_of_M h0),ha.sz]
  obtain ⟨L1,v1,e1⟩ := ha.vis h0 g o cells t hbk (fun i u hi => hc i u (by rw [List.getElem?_append_left (List.getElem?_eq_some_iff.1 hi).1];exact hi))
  obtain ⟨L2,v2,e2⟩ := hb.vis h1 g (o + S.sz) cells t hbk (fun i u hi => by
   have := hc (S.sz + i) u (by rw [List.getElem?_append_right (by omega),l0,Nat.add_sub_cancel_left];exact hi)
   rwa [← Nat.add_assoc] at this)
  exact ⟨L1 ++ L2,⟨L1,L2,rfl,v1,v2⟩,by rw [List.length_append,e1,e2]⟩⟩
theorem Rep.iso {α β : Type} {d : Kd α} {T : Ty} {wt : α → Nat} (h : Rep d T wt) (f : β → α) : Rep (Kd.iso d f) T (fun x => wt (f x)) := ⟨h.sz,fun {w base ok x cs} hM => h.vis hM⟩
def wsum {α : Type} (wt : α → Nat) : List α → Nat
  | [] => 0
  | x :: r => wt x + wsum wt r
theorem cat_len {α : Type} (wt : α → Nat) : ∀ (xs : List α) (Ls : Nat → List Cel),(∀ i x,xs[i]? = some x → (Ls i).length = wt x) → (cat Ls xs.length).length = wsum wt xs := by
 intro xs Ls h
 have key : ∀ n,n ≤ xs.length → (cat Ls n).length = wsum wt (xs.take n) := by
  intro n
  induction n with
  | zero => intro _;simp [cat,wsum]
  | succ n ih =>
   intro hn
   have hw : ∀ (a b : List α),wsum wt (a ++ b) = wsum wt a + wsum wt b := by
    intro a b
    induction a with
    | nil => simp [wsum]
    | cons y r ih => rw [List.cons_append,wsum,wsum,ih];omega
   rw [cat_succ,List.length_append,ih (by omega),List.take_succ_eq_append_getElem (show n < xs.length by omega),hw,h n xs[n] (List.getElem?_eq_getElem (by omega))]
   simp [wsum]
 rw [key xs.length (Nat.le_refl _),List.take_length]
theorem Rep.row {α : Type} {d : Kd α} {T : Ty} {wt : α → Nat} (h : Rep d T wt) {e : Nat} {w : World} {base : Nat} {ok : Nat → Prop} {v : Value} {xs : List α} (hR : d.R e w base ok v xs) :
  ∃ A c L,v = .slice A xs.length c ∧ RowV ok w T A xs.length L ∧ L.length = wsum wt xs := by
 obtain ⟨h0,inner,ho,hr⟩ := hR
 have ho2 := ho.2
 rcases ho2 with ⟨rfl,hn⟩ | ⟨g,cap,cur,rfl,hg,hh,hcap,hmax,hsz,htk⟩
 ·obtain rfl := List.eq_nil_of_length_eq_zero hn
  exact ⟨none,0,[],rfl,⟨by simp,fun _ => [],rfl,fun h => absurd h (by simp)⟩,rfl⟩
 ·have hmx : xs.length ≤ 9223372036854775807 := by have : cap ≤ 9223372036854775807 := hmax;omega
  have key : ∀ i x,xs[i]? = some x → ∃ L,Vis ok w T g (i * T.sz) L ∧ L.length = wt x := fun i x hi => by
   have hM := hr.2 i x hi
   have hil : i < xs.length := (List.getElem?_eq_some_iff.1 hi).1
   have hM2 := d.M_mono (ok' := ok) (fun k hk => hk.1) hM
   obtain ⟨L,v1,e1⟩ := h.vis hM2 g (i * T.sz) cur e hh (fun j u hj => by
    have hjl : j < d.sz := by
     have := (List.getElem?_eq_some_iff.1 hj).1
     rw [List.length_take] at this
     omega
    rw [List.getElem?_take,if_pos hjl,List.getElem?_drop,← htk] at hj
    have hlt : i * d.sz + j < xs.length * d.sz := by
     have : (i + 1) * d.sz ≤ xs.length * d.sz := Nat.mul_le_mul_right _ hil
     rw [Nat.add_mul,Nat.one_mul] at this
     omega
    rw [List.getElem?_take,if_pos hlt,Array.getElem?_toList] at hj
    rw [← h.sz]
    exact hj)
   exact ⟨L,v1,e1⟩
  classical
  have : ∃ Ls : Nat → List Cel,∀ i x,xs[i]? = some x → Vis ok w T g (i * T.sz) (Ls i) ∧ (Ls i).length = wt x := by
   refine ⟨fun i => if h : ∃ x,xs[i]? = some x then (key i h.choose h.choose_spec).choose else [],fun i x hi => ?_⟩
   have hex : ∃ x,xs[i]? = some x := ⟨x,hi⟩
   have ex : hex.choose = x := Option.some.inj (hex.choose_spec.symm.trans hi)
   simp only [dif_pos hex]
   have hs := (key i hex.choose hex.choose_spec).choose_spec
   exact ⟨hs.1,by rw [hs.2,ex]⟩
  obtain ⟨Ls,hLs⟩ := this
  refine ⟨some ⟨g,0,none⟩,cap,cat Ls xs.length,rfl,⟨hmx,Ls,rfl,fun _ => ⟨g,rfl,h0 g rfl,fun i hi => (hLs i xs[i] (List.getElem?_eq_getElem hi)).1⟩⟩,cat_len wt xs Ls (fun i x hi => (hLs i x hi).2)⟩
theorem Rep.slice {α : Type} {d : Kd α} {T : Ty} {wt : α → Nat} (h : Rep d T wt) (e : Nat) : Rep (Kd.slice e d) (.sl T) (wsum wt) :=
 ⟨rfl,fun {w base ok x cs} hM g o cells t hb hc => by
  obtain ⟨v,rfl,hR⟩ := hM
  obtain ⟨A,c,L,rfl,⟨hmx,Ls,e1,hrow⟩,hl⟩ := h.row hR
  exact ⟨L,⟨A,x.length,c,⟨cells,t,hb,by simpa using hc 0 _ rfl⟩,hmx,Ls,e1,hrow⟩,hl⟩⟩
end Go.Proofs.Ytobachfngmpeiaa.Marks
namespace Go.Proofs.Ytobachfngmpeiaa.PFnExactAble
open Go.RowKit Go.Proofs.YtobachfngmpeiaaW.PrintWords Go.Proofs.YtobachfngmpeiaaW.PrintLast Go.Proofs.YtobachfngmpeiaaW.PrintMore Go.Proofs.Ytobachfngmpeiaa.Marks
set_option linter.unusedVariables false
set_option linter.unusedSimpArgs false
def wt192 (x : S192) : Nat := (fun q : _ => 1 + (1 + (1 + (1 + (1))))) ((x.f0,x.f1,x.f2,x.f3,x.f4))
def wt107 (x : S107) : Nat := (fun q : _ => 1 + (wsum (fun _ => 1) (q.2.1) + (1))) ((x.f0,x.f1,x.f2))
def wt94 (x : S94) : Nat := (fun q : _ => 1 + (wsum (fun _ => 1) (q.2.1) + (1))) ((x.f0,x.f1,x.f2))
def wt35 (x : S35) : Nat := (fun q : _ => 1 + (1)) ((x.f0,x.f1))
def laws_FnExactAble.f (k : Nat) (l0_0 : List Int) (l0_1 : List (List (S208))) (l1_0 : List (S184)) (l1_1 : List (S186)) (l1_2 : List (S190)) : Option Bool := (laws_szProg.f k l0_0 l0_1 1048576).bind fun t1 => if t1 < 0 then some true else (laws_szSource.f k l1_0 l1_1 l1_2 t1).bind fun t2 => if t2 < 0 then some true else (laws_toProg.f k l0_0 l0_1).bind fun bA6 => (laws_toSource.f k l1_0 l1_1 l1_2).bind fun bA7 => (spec_Able.f k bA6.1 bA6.2 bA7.1 bA7.2.1 bA7.2.2).bind fun t8 => (laws_toProg.f k l0_0 l0_1).bind fun bA9 => (laws_toSource.f k l1_0 l1_1 l1_2).bind fun bA12 => (impl_Able.f k bA9.1 bA9.2 bA12.1 bA12.2.1 bA12.2.2).bind fun t14 => (laws_eqIntS.f k t14 t8).bind fun eA16 => if eA16 = true then (laws_toProg.f k l0_0 l0_1).bind fun bA18 => (laws_eqProg.f k bA9.1 bA9.2 bA18.1 bA18.2).bind fun eA19 => if eA19 = true then (laws_toSource.f k l1_0 l1_1 l1_2).bind fun bA21 => (laws_eqSource.f k bA12.1 bA12.2.1 bA12.2.2 bA21.1 bA21.2.1 bA21.2.2).bind fun eA22 => if eA22 = true then if wsum (fun _ => 1) bA9.1 + wsum (wsum wt192) bA9.2 ≤ 1152921504606846976 then if wsum wt107 bA12.1 + wsum wt94 bA12.2.1 + wsum wt35 bA12.2.2 ≤ 1152921504606846976 then (laws_eqIntS.f k t14 t8).bind fun eA25 => if eA25 = true then if wsum (fun _ => 1) t14 ≤ 1152921504606846976 then (laws_toProg.f k l0_0 l0_1).bind fun bA29 => (laws_toSource.f k l1_0 l1_1 l1_2).bind fun bA30 => (impl_Able.f k bA29.1 bA29.2 bA30.1 bA30.2.1 bA30.2.2).bind fun t25 => (laws_eqIntS.f k t25 t8).bind fun eA32 => if eA32 = true then some true else some false else none else some false else none else none else some false else some false else some false
end Go.Proofs.Ytobachfngmpeiaa.PFnExactAble
namespace Go.Proofs.Ytobachfngmpeiaa.Marks
open Go.RowKit Go.Proofs.YtobachfngmpeiaaW.PrintWords Go.Proofs.YtobachfngmpeiaaW.PrintLast Go.Proofs.YtobachfngmpeiaaW.PrintMore
set_option linter.unusedVariables false
set_option linter.unusedSimpArgs false
set_option maxHeartbeats 8000000 in
theorem wr_markProg (P : Nat → Prop) (w : World) (A0 : Option Addr) (n0 c0 : Nat) (A1 : Option Addr) (n1 c1 : Nat) (k : Int) (L0 : List Cel) (L1 : List Cel) (hr0 : RowV P w .int A0 n0 L0) (hr1 : RowV P w (.sl (.pair .int (.pair .int (.pair .int (.pair .int .int))))) A1 n1 L1) (hP : ∀ j,P j → j < w.heap.size) (h0 : 0 ≤ k) (hk : k + (L0.length : Int) + (L1.length : Int) ≤ 4611686018427387904) :
  Calls Try.prog 21 #[.agg #[.slice A0 n0 c0,.slice A1 n1 c1],.int .i64 k] w fun e w' => e = .returned (.int .i64 (k + (L0.length : Int) + (L1.length : Int))) ∧ Mk P w w' ∧ WrB w (L0 ++ L1) k w' := by
 have HHP := Aside0.mk hP
 have HH0 := Aside0.mk (And.intro h0 hk)
 have HV0 := Aside0.mk hr0
 have HV1 := Aside0.mk hr1
 clear hP h0 hk hr0 hr1
 have hu44 := Try.underlying44
 go_enter Try.func21,Try.ntmps21
 go_wp2_with (first | ((with_reducible refine gate_dst (N := 2) rfl ?_);refine box_event ?hg (N := 2) ?hd (cs := #[.slice A0 n0 c0,.slice A1 n1 c1]) (t := 44) ?hr ?_;(case hd => rfl);(case hg => rfl);(case hr => first | (go_simp;done) | (go_simp;rfl));intro gb hg w1 hbox hb;have BK0 := Aside0.mk hbox;have HB0 := Aside0.mk hb;have HG := Aside0.mk (show w.heap.size ≤ gb by rw [hg];exact Nat.le_refl _);clear hg hbox hb;have HM0 := Aside0.mk (Mk.of_below (P := P) HB0.out);have HW0 := Aside0.mk (WrB.nil (k := k) HB0.out);have hcz0_0 : w1.cell? ⟨gb,0,none⟩ = some (.slice A0 n0 c0) := (blk_cell BK0.out 0).trans rfl;have hcz0_1 : w1.cell? ⟨gb,1,none⟩ = some (.slice A1 n1 c1) := (blk_cell BK0.out 1).trans rfl;have hfz0_0 := blk_frozen BK0.out 0;have hfz0_1 := blk_frozen BK0.out 1) | ((with_reducible refine gate_callee (f := 40) rfl ?_);refine goesL_ (some 8) rfl rfl Try.func40 (by kernel_rfl) rfl #[.slice A0 n0 c0,.int .i64 (k)] rfl (by (try simp only [List.map_toArray,List.map_cons,List.map_nil]);first | done | rfl | (simp;done)) ?_;refine (wr_markIntS P _ A0 n0 c0 (k) L0 (HV0.out.mk HM0.out) (by have h1_ := HH0.out;omega) (by have h1_ := HH0.out;omega)).mono ?_;rintro e w2 ⟨rfl,hm,hw⟩;refine ⟨_,rfl,?_⟩;have HM1 := Aside0.mk (HM0.out.trans hm);have BK1 := Aside0.mk (blk_kept BK0.out hm.1 (fun hp => by have h1_ := HHP.out _ hp;have h2_ := HG.out;omega));have HW1 := Aside0.mk (WrB.trans HW0.out HM0.out.2.1.size hw.B (by (try simp only [List.length_append,List.length_nil]);push_cast;omega));clear hm hw;have hcz1_0 : w2.cell? ⟨gb,0,none⟩ = some (.slice A0 n0 c0) := (blk_cell BK1.out 0).trans rfl;have hcz1_1 : w2.cell? ⟨gb,1,none⟩ = some (.slice A1 n1 c1) := (blk_cell BK1.out 1).trans rfl;have hfz1_0 := blk_frozen BK1.out 0;have hfz1_1 := blk_frozen BK1.out 1) | ((with_reducible refine gate_callee (f := 68) rfl ?_);refine goesL_ (some 12) rfl rfl Try.func68 (by kernel_rfl) rfl #[.slice A1 n1 c1,.int .i64 (k + (L0.length : Int))] rfl (by (try simp only [List.map_toArray,List.map_cons,List.map_nil]);first | done | rfl | (simp;done)) ?_;refine (wr_markInsSS P _ A1 n1 c1 (k + (L0.length : Int)) L1 (HV1.out.mk HM1.out) (by have h1_ := HH0.out;omega) (by have h1_ := HH0.out;omega)).mono ?_;rintro e w3 ⟨rfl,hm,hw⟩;refine ⟨_,rfl,?_⟩;have HM2 := Aside0.mk (HM1.out.trans hm);have BK2 := Aside0.mk (blk_kept BK1.out hm.1 (fun hp => by have h1_ := HHP.out _ hp;have h2_ := HG.out;omega));have HW2 := Aside0.mk (WrB.trans HW1.out HM1.out.2.1.size hw.B (by (try simp only [List.length_append,List.length_nil]);push_cast;omega));clear hm hw;have hcz2_0 : w3.cell? ⟨gb,0,none⟩ = some (.slice A0 n0 c0) := (blk_cell BK2.out 0).trans rfl;have hcz2_1 : w3.cell? ⟨gb,1,none⟩ = some (.slice A1 n1 c1) := (blk_cell BK2.out 1).trans rfl;have hfz2_0 := blk_frozen BK2.out 0;have hfz2_1 := blk_frozen BK2.out 1))
 go_ret
 exact ⟨rfl,HM2.out,by have h_ := HW2.out;simpa using h_⟩
set_option maxHeartbeats 8000000 in
theorem wr_markSource (P : Nat → Prop) (w : World) (A0 : Option Addr) (n0 c0 : Nat) (A1 : Option Addr) (n1 c1 : Nat) (A2 : Option Addr) (n2 c2 : Nat) (k : Int) (L0 : List Cel) (L1 : List Cel) (L2 : List Cel) (hr0 : RowV P w (.pair .int (.pair (.sl .int) .int)) A0 n0 L0) (hr1 : RowV P w (.pair .int (.pair (.sl .int) .bool)) A1 n1 L1) (hr2 : RowV P w (.pair .int .int) A2 n2 L2) (hP : ∀ j,P j → j < w.heap.size) (h0 : 0 ≤ k) (hk : k + (L0.length : Int) + (L1.length : Int) + (L2.length : Int) ≤ 4611686018427387904) :
  Calls Try.prog 22 #[.agg #[.slice A0 n0 c0,.slice A1 n1 c1,.slice A2 n2 c2],.int .i64 k] w fun e w' => e = .returned (.int .i64 (k + (L0.length : Int) + (L1.length : Int) + (L2.length : Int))) ∧ Mk P w w' ∧ WrB w (L0 ++ L1 ++ L2) k w' := by
 have HHP := Aside0.mk hP
 have HH0 := Aside0.mk (And.intro h0 hk)
 have HV0 := Aside0.mk hr0
 have HV1 := Aside0.mk hr1
 have HV2 := Aside0.mk hr2
 clear hP h0 hk hr0 hr1 hr2
 have hu28 := Try.underlying28
 go_enter Try.func22,Try.ntmps22
 go_wp2_with (first | ((with_reducible refine gate_dst (N := 2) rfl ?_);refine box_event ?hg (N := 2) ?hd (cs := #[.slice A0 n0 c0,.slice A1 n1 c1,.slice A2 n2 c2]) (t := 28) ?hr ?_;(case hd => rfl);(case hg => rfl);(case hr => first | (go_simp;done) | (go_simp;rfl));intro gb hg w1 hbox hb;have BK0 := Aside0.mk hbox;have HB0 := Aside0.mk hb;have HG := Aside0.mk (show w.heap.size ≤ gb by rw [hg];exact Nat.le_refl _);clear hg hbox hb;have HM0 := Aside0.mk (Mk.of_below (P := P) HB0.out);have HW0 := Aside0.mk (WrB.nil (k := k) HB0.out);have hcz0_0 : w1.cell? ⟨gb,0,none⟩ = some (.slice A0 n0 c0) := (blk_cell BK0.out 0).trans rfl;have hcz0_1 : w1.cell? ⟨gb,1,none⟩ = some (.slice A1 n1 c1) := (blk_cell BK0.out 1).trans rfl;have hcz0_2 : w1.cell? ⟨gb,2,none⟩ = some (.slice A2 n2 c2) := (blk_cell BK0.out 2).trans rfl;have hfz0_0 := blk_frozen BK0.out 0;have hfz0_1 := blk_frozen BK0.out 1;have hfz0_2 := blk_frozen BK0.out 2) | ((with_reducible refine gate_callee (f := 69) rfl ?_);refine goesL_ (some 8) rfl rfl Try.func69 (by kernel_rfl) rfl #[.slice A0 n0 c0,.int .i64 (k)] rfl (by (try simp only [List.map_toArray,List.map_cons,List.map_nil]);first | done | rfl | (simp;done)) ?_;refine (wr_markThreadS P _ A0 n0 c0 (k) L0 (HV0.out.mk HM0.out) (by have h1_ := HH0.out;omega) (by have h1_ := HH0.out;omega)).mono ?_;rintro e w2 ⟨rfl,hm,hw⟩;refine ⟨_,rfl,?_⟩;have HM1 := Aside0.mk (HM0.out.trans hm);have BK1 := Aside0.mk (blk_kept BK0.out hm.1 (fun hp => by have h1_ := HHP.out _ hp;have h2_ := HG.out;omega));have HW1 := Aside0.mk (WrB.trans HW0.out HM0.out.2.1.size hw.B (by (try simp only [List.length_append,List.length_nil]);push_cast;omega));clear hm hw;have hcz1_0 : w2.cell? ⟨gb,0,none⟩ = some (.slice A0 n0 c0) := (blk_cell BK1.out 0).trans rfl;have hcz1_1 : w2.cell? ⟨gb,1,none⟩ = some (.slice A1 n1 c1) := (blk_cell BK1.out 1).trans rfl;have hcz1_2 : w2.cell? ⟨gb,2,none⟩ = some (.slice A2 n2 c2) := (blk_cell BK1.out 2).trans rfl;have hfz1_0 := blk_frozen BK1.out 0;have hfz1_1 := blk_frozen BK1.out 1;have hfz1_2 := blk_frozen BK1.out 2) | ((with_reducible refine gate_callee (f := 70) rfl ?_);refine goesL_ (some 12) rfl rfl Try.func70 (by kernel_rfl) rfl #[.slice A1 n1 c1,.int .i64 (k + (L0.length : Int))] rfl (by (try simp only [List.map_toArray,List.map_cons,List.map_nil]);first | done | rfl | (simp;done)) ?_;refine (wr_markChanS P _ A1 n1 c1 (k + (L0.length : Int)) L1 (HV1.out.mk HM1.out) (by have h1_ := HH0.out;omega) (by have h1_ := HH0.out;omega)).mono ?_;rintro e w3 ⟨rfl,hm,hw⟩;refine ⟨_,rfl,?_⟩;have HM2 := Aside0.mk (HM1.out.trans hm);have BK2 := Aside0.mk (blk_kept BK1.out hm.1 (fun hp => by have h1_ := HHP.out _ hp;have h2_ := HG.out;omega));have HW2 := Aside0.mk (WrB.trans HW1.out HM1.out.2.1.size hw.B (by (try simp only [List.length_append,List.length_nil]);push_cast;omega));clear hm hw;have hcz2_0 : w3.cell? ⟨gb,0,none⟩ = some (.slice A0 n0 c0) := (blk_cell BK2.out 0).trans rfl;have hcz2_1 : w3.cell? ⟨gb,1,none⟩ = some (.slice A1 n1 c1) := (blk_cell BK2.out 1).trans rfl;have hcz2_2 : w3.cell? ⟨gb,2,none⟩ = some (.slice A2 n2 c2) := (blk_cell BK2.out 2).trans rfl;have hfz2_0 := blk_frozen BK2.out 0;have hfz2_1 := blk_frozen BK2.out 1;have hfz2_2 := blk_frozen BK2.out 2) | ((with_reducible refine gate_callee (f := 71) rfl ?_);refine goesL_ (some 16) rfl rfl Try.func71 (by kernel_rfl) rfl #[.slice A2 n2 c2,.int .i64 (k + (L0.length : Int) + (L1.length : Int))] rfl (by (try simp only [List.map_toArray,List.map_cons,List.map_nil]);first | done | rfl | (simp;done)) ?_;refine (wr_markNoteS P _ A2 n2 c2 (k + (L0.length : Int) + (L1.length : Int)) L2 (HV2.out.mk HM2.out) (by have h1_ := HH0.out;omega) (by have h1_ := HH0.out;omega)).mono ?_;rintro e w4 ⟨rfl,hm,hw⟩;refine ⟨_,rfl,?_⟩;have HM3 := Aside0.mk (HM2.out.trans hm);have BK3 := Aside0.mk (blk_kept BK2.out hm.1 (fun hp => by have h1_ := HHP.out _ hp;have h2_ := HG.out;omega));have HW3 := Aside0.mk (WrB.trans HW2.out HM2.out.2.1.size hw.B (by (try simp only [List.length_append,List.length_nil]);push_cast;omega));clear hm hw;have hcz3_0 : w4.cell? ⟨gb,0,none⟩ = some (.slice A0 n0 c0) := (blk_cell BK3.out 0).trans rfl;have hcz3_1 : w4.cell? ⟨gb,1,none⟩ = some (.slice A1 n1 c1) := (blk_cell BK3.out 1).trans rfl;have hcz3_2 : w4.cell? ⟨gb,2,none⟩ = some (.slice A2 n2 c2) := (blk_cell BK3.out 2).trans rfl;have hfz3_0 := blk_frozen BK3.out 0;have hfz3_1 := blk_frozen BK3.out 1;have hfz3_2 := blk_frozen BK3.out 2))
 go_ret
 exact ⟨rfl,HM3.out,by have h_ := HW3.out;simpa using h_⟩
end Go.Proofs.Ytobachfngmpeiaa.Marks
namespace Go.Proofs.Ytobachfngmpeiaa.LawKit
open Go.RowKit Go.Proofs.YtobachfngmpeiaaW.PrintWords Go.Proofs.YtobachfngmpeiaaW.PrintLast Go.Proofs.YtobachfngmpeiaaW.PrintMore Go.Proofs.Ytobachfngmpeiaa.Marks
set_option linter.unusedVariables false
set_option linter.unusedSimpArgs false
def St (lo hi : Nat) (Q : World → Prop) (W : World) : Prop := hi ≤ W.heap.size ∧ ∀ W' : World,(∀ g,lo ≤ g → g < hi → W'.heap[g]? = W.heap[g]?) → Q W'
section
variable {lo hi g o : Nat} {Q : World → Prop} {W W' : World} {P : Nat → Prop}
theorem St.now (h : St lo hi Q W) : Q W := h.2 W (fun _ _ _ => rfl)
theorem St.keep (h : St lo hi Q W) (hs : W.heap.size ≤ W'.heap.size) (hk : ∀ g,lo ≤ g → g < hi → W'.heap[g]? = W.heap[g]?) : St lo hi Q W' :=
 ⟨Nat.le_trans h.1 hs,fun W2 h2 => h.2 W2 (fun g h3 h4 => (h2 g h3 h4).trans (hk g h3 h4))⟩
theorem St.below (h : St lo hi Q W) (hb : Below W.heap.size W W') : St lo hi Q W' := h.keep hb.size (fun g _ h4 => hb.block g (Nat.lt_of_lt_of_le h4 h.1))
theorem St.drew (h : St lo hi Q W) : St lo hi Q W.drew := h.keep (Nat.le_refl _) (fun _ _ _ => rfl)
theorem St.drewN (h : St lo hi Q W) (n : Nat) : St lo hi Q (W.drewN n) := h.keep (Nat.le_refl _) (fun _ _ _ => rfl)
theorem St.set (h : St lo hi Q W) (hg : hi ≤ g) (v : Value) : St lo hi Q (W.setCell ⟨g,o,none⟩ v) :=
 h.keep (by simp [World.setCell]) (fun k _ h4 => Below.heap_setCell W ⟨g,o,none⟩ v k (by show k ≠ g;omega))
theorem St.mark (h : St lo hi Q W) (hm : Mk P W W') (hP : ∀ k,P k → k < lo ∨ hi ≤ k) : St lo hi Q W' :=
 h.keep hm.2.1.size (fun k h3 h4 => hm.1.2 k (Nat.lt_of_lt_of_le h4 h.1) (fun hp => by have := hP k hp;omega))
theorem St.new (top : Nat) (ht : top ≤ W.heap.size) (hs : W.heap.size ≤ W'.heap.size) : ∃ lo hi,top ≤ lo ∧ lo ≤ hi ∧ hi ≤ W'.heap.size ∧ ∀ (α : Type) (d : Kd α) (e : Nat) (v : Value) (xs : List α) (ok : Nat → Prop),Kd.R d e W' W.heap.size ok v xs → St lo hi (fun w => Kd.R d e w lo (fun k => lo ≤ k ∧ k < hi) v xs) W' :=
 ⟨W.heap.size,W'.heap.size,ht,hs,Nat.le_refl _,fun α d e v xs ok h => ⟨Nat.le_refl _,fun W2 h2 => Kd.R_step (Kd.R_mono (Kd.R_bound h) (fun k hk => ⟨hk.2.1,hk.2.2.1⟩)) (fun k hk _ => h2 k hk.1 hk.2)⟩⟩
end
section
variable {α : Type} {d : Kd α} {e lo hi : Nat} {W : World} {A : Option Addr} {n c : Nat} {xs : List α}
theorem St.reads (h : St lo hi (fun w => Kd.R d e w lo (fun k => lo ≤ k ∧ k < hi) (.slice A xs.length c) xs) W) : d.C W A xs.length xs := (Kd.R_reads' h.now).2.2
theorem St.room (h : St lo hi (fun w => Kd.R d e w lo (fun k => lo ≤ k ∧ k < hi) (.slice A xs.length c) xs) W) : xs.length ≤ c := (Kd.R_reads' h.now).2.1
theorem St.rowv {T : Ty} {wt : α → Nat} (hT : Rep d T wt) (h : St lo hi (fun w => Kd.R d e w lo (fun k => lo ≤ k ∧ k < hi) (.slice A xs.length c) xs) W) : ∃ L,RowV (fun k => lo ≤ k ∧ k < hi) W T A xs.length L ∧ L.length = wsum wt xs := by
 obtain ⟨A',c',L,e1,h1,h2⟩ := hT.row h.now
 injection e1 with e2 e3 e4
 subst e2 e4
 exact ⟨L,h1,h2⟩
end
section
variable {P : Nat → Prop} {w w' : World}
theorem IntAt_move {g o : Nat} (h : IntAt w g o) (hm : w'.heap[g]? = w.heap[g]?) : IntAt w' g o := by
 obtain ⟨cs,t,n,h1,h2⟩ := h
 exact ⟨cs,t,n,hm.trans h1,h2⟩
theorem BoolAt_move {g o : Nat} (h : BoolAt w g o) (hm : w'.heap[g]? = w.heap[g]?) : BoolAt w' g o := by
 obtain ⟨cs,t,n,h1,h2⟩ := h
 exact ⟨cs,t,n,hm.trans h1,h2⟩
theorem SlAt_move {g o n c : Nat} {A : Option Addr} (h : SlAt w g o A n c) (hm : w'.heap[g]? = w.heap[g]?) : SlAt w' g o A n c := by
 obtain ⟨cs,t,h1,h2⟩ := h
 exact ⟨cs,t,hm.trans h1,h2⟩
theorem Vis.move (hm : ∀ g,P g → w'.heap[g]? = w.heap[g]?) : ∀ {t : Ty} {g o : Nat} {L : List Cel},P g → Vis P w t g o L → Vis P w' t g o L
 | .int,g,o,L,hg,h => ⟨h.1,IntAt_move h.2 (hm g hg)⟩
 | .bool,g,o,L,hg,h => ⟨h.1,BoolAt_move h.2 (hm g hg)⟩
 | .pair a b,g,o,L,hg,⟨L1,L2,e,h1,h2⟩ => ⟨L1,L2,e,Vis.move hm hg h1,Vis.move hm hg h2⟩
 | .sl a,g,o,L,hg,⟨A,n,c,hs,hb,Ls,e,h⟩ => ⟨A,n,c,SlAt_move hs (hm g hg),hb,Ls,e,fun hn => by
  obtain ⟨g',e',hp,hi⟩ := h hn
  exact ⟨g',e',hp,fun i hl => Vis.move hm hp (hi i hl)⟩⟩
theorem RowV.move (hm : ∀ g,P g → w'.heap[g]? = w.heap[g]?) {t : Ty} {A : Option Addr} {n : Nat} {L : List Cel} (h : RowV P w t A n L) : RowV P w' t A n L := by
 obtain ⟨hb,Ls,e,h⟩ := h
 exact ⟨hb,Ls,e,fun hn => by
  obtain ⟨g',e',hp,hi⟩ := h hn
  exact ⟨g',e',hp,fun i hl => Vis.move hm hp (hi i hl)⟩⟩
end
theorem St.of_row {lo hi : Nat} {W : World} {t : Ty} {A : Option Addr} {n : Nat} {L : List Cel} (hs : hi ≤ W.heap.size) (h : RowV (fun k => lo ≤ k ∧ k < hi) W t A n L) : St lo hi (fun w => RowV (fun k => lo ≤ k ∧ k < hi) w t A n L) W :=
 ⟨hs,fun W2 h2 => RowV.move (fun g hg => h2 g hg.1 hg.2) h⟩
theorem St.of_held {lo hi : Nat} {W : World} {L : List Cel} {k : Int} (hs : hi ≤ W.heap.size) (hL : ∀ c ∈ L,lo ≤ c.1 ∧ c.1 < hi) (h : HeldAt W L k) : St lo hi (fun w => HeldAt w L k) W :=
 ⟨hs,fun W2 h2 => h.of_heap (fun c hc => h2 c.1 (hL c hc).1 (hL c hc).2)⟩
theorem RowV.ints {P : Nat → Prop} {w : World} {A : Option Addr} {n : Nat} {L : List Cel} (h : RowV P w .int A n L) : (L.map addr2).Nodup := by
 obtain ⟨_,Ls,rfl,h⟩ := h
 have key : ∀ m,m ≤ n → ((cat Ls m).map addr2).Nodup ∧ ∀ a ∈ (cat Ls m).map addr2,a.2 < m := by
  intro m
  induction m with
  | zero => intro _;exact ⟨by simp [cat],by simp [cat]⟩
  | succ m ih =>
   intro hm
   obtain ⟨i1,i2⟩ := ih (by omega)
   obtain ⟨g,_,_,hi⟩ := h (by omega)
   have e := (hi m (by omega)).1
   rw [cat_succ,e,List.map_append]
   refine ⟨List.nodup_append.2 ⟨i1,by simp,fun a ha b hb e2 => ?_⟩,fun a ha => ?_⟩
   ·have h1 := i2 a ha
    have hb2 : b = addr2 (g,m * Ty.int.sz,false) := by simpa using hb
    subst e2
    rw [hb2] at h1
    simp [addr2,Ty.sz] at h1
   ·rcases List.mem_append.1 ha with ha | ha
    ·have := i2 a ha
     omega
    ·have hb2 : a = addr2 (g,m * Ty.int.sz,false) := by simpa using ha
     rw [hb2]
     simp [addr2,Ty.sz]
 exact (key n (Nat.le_refl _)).1
end Go.Proofs.Ytobachfngmpeiaa.LawKit
