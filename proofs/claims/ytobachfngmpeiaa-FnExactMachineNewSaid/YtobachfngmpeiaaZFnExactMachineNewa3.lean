/- A part of the proof that the law FnExactMachineNew holds for every input. -/
import Derived.Test.YtobachfngmpeiaaZFnExactMachineNewa2
namespace Go.Proofs.Ytobachfngmpeiaa.Marks
open Go.RowKit Go.Proofs.YtobachfngmpeiaaW.PrintWords Go.Proofs.YtobachfngmpeiaaW.PrintLast Go.Proofs.YtobachfngmpeiaaW.PrintMore
set_option linter.unusedVariables false
set_option linter.unusedSimpArgs false
set_option maxHeartbeats 8000000 in
set_option maxRecDepth 100000 in
theorem wr_markIntS (P : Nat → Prop) (w : World) (A : Option Addr) (n c : Nat) (k : Int) (L : List Cel) (h : RowV P w .int A n L) (h0 : 0 ≤ k) (hk : k + (L.length : Int) ≤ 4611686018427387904) :
    Calls Try.prog 40 #[.slice A n c, .int .i64 k] w fun e w' => e = .returned (.int .i64 (k + (L.length : Int))) ∧ Mk P w w' ∧ Wr w L k w' := by
  obtain ⟨hn, Ls, rfl, h⟩ := h
  go_enter Try.func40, Try.ntmps40
  go_wp2
  go_loopg [1, 5] n (fun kq v1 v5 w' => ∃ (x1 x5 : Int), v1 = .int .i64 x1 ∧ v5 = .int .i64 x5 ∧ Aside0 (0 ≤ x5 ∧ x5 + (kq : Int) = (n : Int) ∧ x1 = k + ((cat Ls x5.toNat).length : Int)) ∧ Aside0 (Mk P w w') ∧ Aside0 (Wr w (cat Ls x5.toNat) k w'))
  case atStart => exact ⟨k, 0, rfl, rfl, ⟨by simp [cat]⟩, ⟨Mk.refl P w⟩, ⟨Wr.refl w k⟩⟩
  case round =>
    obtain ⟨x1, x5, rfl, rfl, HJ, HM0, HW0⟩ := hrel
    obtain ⟨j0, j1, jx⟩ := HJ.out
    by_cases c3 : x5 < (n : Int)
    · have c3b0 : decide (x5 < (n : Int)) = true := decide_eq_true c3
      obtain ⟨g, rfl, hp, hi⟩ := h (by omega)
      have cl := cat_le Ls (j := x5.toNat) (n := n) (by omega)
      have cs_ := cat_succ Ls x5.toNat
      have hv := hi x5.toNat (by omega)
      generalize hLs : Ls x5.toNat = E at cl cs_ hv
      obtain ⟨e0, i0⟩ := hv
      have i0 : IntAt w g (x5.toNat) := (by first | simpa using i0 | (simp [Ty.sz] at i0; exact i0) | exact i0)
      have hE : E = [(g, x5.toNat, false)] := by
        skip; (try rw [e0]); (try first | rfl | simp [Ty.sz])
      have hEl : E.length = 1 := by rw [hE]; (try simp only [List.length_append, List.length_cons, List.length_nil, Nat.zero_add])
      have p5 : (0 ≤ x5) = True := eq_true j0
      have q5 : (x5 < (n : Int)) = True := eq_true c3
      rw [hEl] at cl
      have e5 : wrap64 (x5 + 1) = x5 + 1 := wrap_in (by omega) (by omega)
      have HE5 := Aside0.mk e5
      have HC0 : Aside0 (x1 = k + ((cat Ls x5.toNat).length : Int)) := ⟨jx⟩
      have HCL := Aside0.mk cl
      obtain ⟨m0, hx0, hf0⟩ := (i0.mk HM0.out).cell
      have HM1 := Aside0.mk (HM0.out.set (u := .int .i64 (x1)) hp hx0 (.inr (.inl ⟨_, _, _, rfl, rfl⟩)))
      have HW1 := Aside0.mk (HW0.out.set (g := g) (o := x5.toNat) false (v := .int .i64 (x1)) (by rw [HC0.out]; rfl))
      have HC1 : Aside0 (wrap64 (x1 + 1) = k + ((cat Ls x5.toNat ++ [(g, x5.toNat, false)]).length : Int)) := ⟨by have h1_ := HC0.out; have h2_ := HCL.out; rw [List.length_append, List.length_singleton]; rw [wrap_in (n := x1 + 1)] <;> (push_cast; (try simp only [List.length_append, List.length_cons, List.length_nil, Nat.zero_add] at h1_); (try simp only [List.length_append, List.length_cons, List.length_nil, Nat.zero_add] at h2_); (try simp only [List.length_append, List.length_cons, List.length_nil, Nat.zero_add]); omega)⟩
      clear HJ jx cl hEl e5
      go_wp2
      go_roundg (n - x5.toNat - 1)
      case measure => omega
      case rel => exact ⟨_, _, rfl, rfl, ⟨by have h1_ := HC1.out; have h5_ := HE5.out; refine ⟨by omega, by omega, ?_⟩; rw [h1_]; (try rw [h5_]); rw [show (x5 + 1).toNat = x5.toNat + 1 by omega, cs_, hE]; (try simp only [List.append_assoc])⟩, HM1, ⟨HW1.out.cast (by (try rw [HE5.out]); rw [show (x5 + 1).toNat = x5.toNat + 1 by omega, cs_, hE]; (try simp only [List.append_assoc]))⟩⟩
    · have c3b0 : decide (x5 < (n : Int)) = false := decide_eq_false c3
      have hx1 : x5.toNat = n := by omega
      rw [hx1] at jx HW0
      subst jx
      go_wp2
      go_ret
      exact ⟨rfl, HM0.out, HW0.out⟩
set_option maxHeartbeats 8000000 in
set_option maxRecDepth 100000 in
theorem hd_heldIntS (P : Nat → Prop) (w : World) (A : Option Addr) (n c : Nat) (k : Int) (L : List Cel) (h : RowV P w .int A n L) (hv : HeldAt w L k) (h0 : 0 ≤ k) (hk : k + (L.length : Int) ≤ 4611686018427387904) :
    Calls Try.prog 41 #[.slice A n c, .int .i64 k] w fun e w' => e = .returned (.int .i64 (k + (L.length : Int))) ∧ Drawn0 w w' := by
  obtain ⟨hn, Ls, rfl, h⟩ := h
  have HV := Aside0.mk hv
  clear hv
  go_enter Try.func41, Try.ntmps41
  go_wp2
  go_loopg [1, 5] n (fun kq v1 v5 w' => ∃ (x1 x5 : Int), v1 = .int .i64 x1 ∧ v5 = .int .i64 x5 ∧ Aside0 (0 ≤ x5 ∧ x5 + (kq : Int) = (n : Int) ∧ x1 = k + ((cat Ls x5.toNat).length : Int)) ∧ Drawn0 w w')
  case atStart => exact ⟨k, 0, rfl, rfl, ⟨by simp [cat]⟩, by repeat (first | exact Drawn0.refl _ | apply Drawn0.step)⟩
  case round =>
    obtain ⟨x1, x5, rfl, rfl, HJ, ⟨m1, rfl⟩⟩ := hrel
    obtain ⟨j0, j1, jx⟩ := HJ.out
    by_cases c3 : x5 < (n : Int)
    · have c3b0 : decide (x5 < (n : Int)) = true := decide_eq_true c3
      obtain ⟨g, rfl, hp, hi⟩ := h (by omega)
      have cl := cat_le Ls (j := x5.toNat) (n := n) (by omega)
      have cs_ := cat_succ Ls x5.toNat
      have hv := hi x5.toNat (by omega)
      have HE_ := Aside0.mk (HV.out.cat (j := x5.toNat) (by omega))
      generalize hLs : Ls x5.toNat = E at cl cs_ hv HE_
      obtain ⟨e0, -⟩ := hv
      have hE : E = [(g, x5.toNat, false)] := by
        skip; (try rw [e0]); (try first | rfl | simp [Ty.sz])
      have hEl : E.length = 1 := by rw [hE]; (try simp only [List.length_append, List.length_cons, List.length_nil, Nat.zero_add]); (try omega)
      have p5 : (0 ≤ x5) = True := eq_true j0
      have q5 : (x5 < (n : Int)) = True := eq_true c3
      rw [hEl] at cl
      rw [hE] at HE_
      have e5 : wrap64 (x5 + 1) = x5 + 1 := wrap_in (by omega) (by omega)
      have HE5 := Aside0.mk e5
      have HCL := Aside0.mk cl
      have HC0 : Aside0 (x1 = k + ((cat Ls x5.toNat).length : Int)) := ⟨jx⟩
      have hx0 : w.cell? ⟨g, x5.toNat, none⟩ = some (.int .i64 (x1)) := by rw [HeldAt.one (HE_.out), ← HC0.out]; rfl
      have HC1 : Aside0 (wrap64 (x1 + 1) = k + ((cat Ls x5.toNat).length : Int) + (([(g, x5.toNat, false)] : List Cel).length : Int)) := ⟨by have h1_ := HC0.out; have h2_ := HCL.out; (try simp only [List.length_singleton] at h1_); simp only [List.length_singleton]; rw [wrap_in (n := x1 + 1)] <;> ((try push_cast at h1_); (try push_cast); omega)⟩
      clear HJ jx cl hEl e5 HE_
      go_wp2
      go_roundg (n - x5.toNat - 1)
      case measure => omega
      case rel => exact ⟨_, _, rfl, rfl, ⟨by have h1_ := HC1.out; have h5_ := HE5.out; refine ⟨by omega, by omega, ?_⟩; rw [h1_]; (try rw [h5_]); rw [show (x5 + 1).toNat = x5.toNat + 1 by omega, cs_, hE]; (try simp only [List.length_singleton]); (try simp only [List.length_append, List.length_cons, List.length_nil, Nat.zero_add]); push_cast; omega⟩, by repeat (first | exact Drawn0.refl _ | apply Drawn0.step)⟩
    · have c3b0 : decide (x5 < (n : Int)) = false := decide_eq_false c3
      have hx1 : x5.toNat = n := by omega
      rw [hx1] at jx
      subst jx
      go_wp2
      go_ret
      exact ⟨rfl, by repeat (first | exact Drawn0.refl _ | apply Drawn0.step)⟩
set_option maxHeartbeats 8000000 in
set_option maxRecDepth 100000 in
theorem wr_markStepS (P : Nat → Prop) (w : World) (A : Option Addr) (n c : Nat) (k : Int) (L : List Cel) (h : RowV P w (.pair .int (.pair .int (.pair .int (.pair .int .int)))) A n L) (h0 : 0 ≤ k) (hk : k + (L.length : Int) ≤ 4611686018427387904) :
    Calls Try.prog 85 #[.slice A n c, .int .i64 k] w fun e w' => e = .returned (.int .i64 (k + (L.length : Int))) ∧ Mk P w w' ∧ Wr w L k w' := by
  obtain ⟨hn, Ls, rfl, h⟩ := h
  go_enter Try.func85, Try.ntmps85
  go_wp2
  go_loopg [1, 5] n (fun kq v1 v5 w' => ∃ (x1 x5 : Int), v1 = .int .i64 x1 ∧ v5 = .int .i64 x5 ∧ Aside0 (0 ≤ x5 ∧ x5 + (kq : Int) = (n : Int) ∧ x1 = k + ((cat Ls x5.toNat).length : Int)) ∧ Aside0 (Mk P w w') ∧ Aside0 (Wr w (cat Ls x5.toNat) k w'))
  case atStart => exact ⟨k, 0, rfl, rfl, ⟨by simp [cat]⟩, ⟨Mk.refl P w⟩, ⟨Wr.refl w k⟩⟩
  case round =>
    obtain ⟨x1, x5, rfl, rfl, HJ, HM0, HW0⟩ := hrel
    obtain ⟨j0, j1, jx⟩ := HJ.out
    by_cases c3 : x5 < (n : Int)
    · have c3b0 : decide (x5 < (n : Int)) = true := decide_eq_true c3
      obtain ⟨g, rfl, hp, hi⟩ := h (by omega)
      have cl := cat_le Ls (j := x5.toNat) (n := n) (by omega)
      have cs_ := cat_succ Ls x5.toNat
      have hv := hi x5.toNat (by omega)
      generalize hLs : Ls x5.toNat = E at cl cs_ hv
      obtain ⟨E0, D0, eE0, v0, r0⟩ := hv
      obtain ⟨e0, i0⟩ := v0
      have i0 : IntAt w g (x5.toNat * 5) := (by first | simpa using i0 | (simp [Ty.sz] at i0; exact i0) | exact i0)
      obtain ⟨E1, D1, eE1, v1, r1⟩ := r0
      obtain ⟨e1, i1⟩ := v1
      have i1 : IntAt w g (x5.toNat * 5 + 1) := (by first | simpa using i1 | (simp [Ty.sz] at i1; exact i1) | exact i1)
      obtain ⟨E2, D2, eE2, v2, r2⟩ := r1
      obtain ⟨e2, i2⟩ := v2
      have i2 : IntAt w g (x5.toNat * 5 + 2) := (by first | simpa using i2 | (simp [Ty.sz] at i2; exact i2) | exact i2)
      obtain ⟨E3, D3, eE3, v3, r3⟩ := r2
      obtain ⟨e3, i3⟩ := v3
      have i3 : IntAt w g (x5.toNat * 5 + 3) := (by first | simpa using i3 | (simp [Ty.sz] at i3; exact i3) | exact i3)
      obtain ⟨e4, i4⟩ := r3
      have i4 : IntAt w g (x5.toNat * 5 + 4) := (by first | simpa using i4 | (simp [Ty.sz] at i4; exact i4) | exact i4)
      have hE : E = [(g, x5.toNat * 5, false)] ++ [(g, x5.toNat * 5 + 1, false)] ++ [(g, x5.toNat * 5 + 2, false)] ++ [(g, x5.toNat * 5 + 3, false)] ++ [(g, x5.toNat * 5 + 4, false)] := by
        rw [eE0, eE1, eE2, eE3]; skip; (try rw [e0]); (try rw [e1]); (try rw [e2]); (try rw [e3]); (try rw [e4]); (try first | rfl | simp [Ty.sz])
      have hEl : E.length = 1 + 1 + 1 + 1 + 1 := by rw [hE]; (try simp only [List.length_append, List.length_cons, List.length_nil, Nat.zero_add])
      have p5 : (0 ≤ x5) = True := eq_true j0
      have q5 : (x5 < (n : Int)) = True := eq_true c3
      rw [hEl] at cl
      have e5 : wrap64 (x5 + 1) = x5 + 1 := wrap_in (by omega) (by omega)
      have HE5 := Aside0.mk e5
      have HC0 : Aside0 (x1 = k + ((cat Ls x5.toNat).length : Int)) := ⟨jx⟩
      have HCL := Aside0.mk cl
      obtain ⟨m0, hx0, hf0⟩ := (i0.mk HM0.out).cell
      have HM1 := Aside0.mk (HM0.out.set (u := .int .i64 (x1)) hp hx0 (.inr (.inl ⟨_, _, _, rfl, rfl⟩)))
      have HW1 := Aside0.mk (HW0.out.set (g := g) (o := x5.toNat * 5) false (v := .int .i64 (x1)) (by rw [HC0.out]; rfl))
      have HC1 : Aside0 (wrap64 (x1 + 1) = k + ((cat Ls x5.toNat ++ [(g, x5.toNat * 5, false)]).length : Int)) := ⟨by have h1_ := HC0.out; have h2_ := HCL.out; rw [List.length_append, List.length_singleton]; rw [wrap_in (n := x1 + 1)] <;> (push_cast; (try simp only [List.length_append, List.length_cons, List.length_nil, Nat.zero_add] at h1_); (try simp only [List.length_append, List.length_cons, List.length_nil, Nat.zero_add] at h2_); (try simp only [List.length_append, List.length_cons, List.length_nil, Nat.zero_add]); omega)⟩
      obtain ⟨m1, hx1, hf1⟩ := (i1.mk HM1.out).cell
      have HM2 := Aside0.mk (HM1.out.set (u := .int .i64 (wrap64 (x1 + 1))) hp hx1 (.inr (.inl ⟨_, _, _, rfl, rfl⟩)))
      have HW2 := Aside0.mk (HW1.out.set (g := g) (o := x5.toNat * 5 + 1) false (v := .int .i64 (wrap64 (x1 + 1))) (by rw [HC1.out]; rfl))
      have HC2 : Aside0 (wrap64 (wrap64 (x1 + 1) + 1) = k + ((cat Ls x5.toNat ++ [(g, x5.toNat * 5, false)] ++ [(g, x5.toNat * 5 + 1, false)]).length : Int)) := ⟨by have h1_ := HC1.out; have h2_ := HCL.out; rw [List.length_append, List.length_singleton]; rw [wrap_in (n := wrap64 (x1 + 1) + 1)] <;> (push_cast; (try simp only [List.length_append, List.length_cons, List.length_nil, Nat.zero_add] at h1_); (try simp only [List.length_append, List.length_cons, List.length_nil, Nat.zero_add] at h2_); (try simp only [List.length_append, List.length_cons, List.length_nil, Nat.zero_add]); omega)⟩
      obtain ⟨m2, hx2, hf2⟩ := (i2.mk HM2.out).cell
      have HM3 := Aside0.mk (HM2.out.set (u := .int .i64 (wrap64 (wrap64 (x1 + 1) + 1))) hp hx2 (.inr (.inl ⟨_, _, _, rfl, rfl⟩)))
      have HW3 := Aside0.mk (HW2.out.set (g := g) (o := x5.toNat * 5 + 2) false (v := .int .i64 (wrap64 (wrap64 (x1 + 1) + 1))) (by rw [HC2.out]; rfl))
      have HC3 : Aside0 (wrap64 (wrap64 (wrap64 (x1 + 1) + 1) + 1) = k + ((cat Ls x5.toNat ++ [(g, x5.toNat * 5, false)] ++ [(g, x5.toNat * 5 + 1, false)] ++ [(g, x5.toNat * 5 + 2, false)]).length : Int)) := ⟨by have h1_ := HC2.out; have h2_ := HCL.out; rw [List.length_append, List.length_singleton]; rw [wrap_in (n := wrap64 (wrap64 (x1 + 1) + 1) + 1)] <;> (push_cast; (try simp only [List.length_append, List.length_cons, List.length_nil, Nat.zero_add] at h1_); (try simp only [List.length_append, List.length_cons, List.length_nil, Nat.zero_add] at h2_); (try simp only [List.length_append, List.length_cons, List.length_nil, Nat.zero_add]); omega)⟩
      obtain ⟨m3, hx3, hf3⟩ := (i3.mk HM3.out).cell
      have HM4 := Aside0.mk (HM3.out.set (u := .int .i64 (wrap64 (wrap64 (wrap64 (x1 + 1) + 1) + 1))) hp hx3 (.inr (.inl ⟨_, _, _, rfl, rfl⟩)))
      have HW4 := Aside0.mk (HW3.out.set (g := g) (o := x5.toNat * 5 + 3) false (v := .int .i64 (wrap64 (wrap64 (wrap64 (x1 + 1) + 1) + 1))) (by rw [HC3.out]; rfl))
      have HC4 : Aside0 (wrap64 (wrap64 (wrap64 (wrap64 (x1 + 1) + 1) + 1) + 1) = k + ((cat Ls x5.toNat ++ [(g, x5.toNat * 5, false)] ++ [(g, x5.toNat * 5 + 1, false)] ++ [(g, x5.toNat * 5 + 2, false)] ++ [(g, x5.toNat * 5 + 3, false)]).length : Int)) := ⟨by have h1_ := HC3.out; have h2_ := HCL.out; rw [List.length_append, List.length_singleton]; rw [wrap_in (n := wrap64 (wrap64 (wrap64 (x1 + 1) + 1) + 1) + 1)] <;> (push_cast; (try simp only [List.length_append, List.length_cons, List.length_nil, Nat.zero_add] at h1_); (try simp only [List.length_append, List.length_cons, List.length_nil, Nat.zero_add] at h2_); (try simp only [List.length_append, List.length_cons, List.length_nil, Nat.zero_add]); omega)⟩
      obtain ⟨m4, hx4, hf4⟩ := (i4.mk HM4.out).cell
      have HM5 := Aside0.mk (HM4.out.set (u := .int .i64 (wrap64 (wrap64 (wrap64 (wrap64 (x1 + 1) + 1) + 1) + 1))) hp hx4 (.inr (.inl ⟨_, _, _, rfl, rfl⟩)))
      have HW5 := Aside0.mk (HW4.out.set (g := g) (o := x5.toNat * 5 + 4) false (v := .int .i64 (wrap64 (wrap64 (wrap64 (wrap64 (x1 + 1) + 1) + 1) + 1))) (by rw [HC4.out]; rfl))
      have HC5 : Aside0 (wrap64 (wrap64 (wrap64 (wrap64 (wrap64 (x1 + 1) + 1) + 1) + 1) + 1) = k + ((cat Ls x5.toNat ++ [(g, x5.toNat * 5, false)] ++ [(g, x5.toNat * 5 + 1, false)] ++ [(g, x5.toNat * 5 + 2, false)] ++ [(g, x5.toNat * 5 + 3, false)] ++ [(g, x5.toNat * 5 + 4, false)]).length : Int)) := ⟨by have h1_ := HC4.out; have h2_ := HCL.out; rw [List.length_append, List.length_singleton]; rw [wrap_in (n := wrap64 (wrap64 (wrap64 (wrap64 (x1 + 1) + 1) + 1) + 1) + 1)] <;> (push_cast; (try simp only [List.length_append, List.length_cons, List.length_nil, Nat.zero_add] at h1_); (try simp only [List.length_append, List.length_cons, List.length_nil, Nat.zero_add] at h2_); (try simp only [List.length_append, List.length_cons, List.length_nil, Nat.zero_add]); omega)⟩
      clear HJ jx cl hEl e5
      go_wp2
      go_roundg (n - x5.toNat - 1)
      case measure => omega
      case rel => exact ⟨_, _, rfl, rfl, ⟨by have h1_ := HC5.out; have h5_ := HE5.out; refine ⟨by omega, by omega, ?_⟩; rw [h1_]; (try rw [h5_]); rw [show (x5 + 1).toNat = x5.toNat + 1 by omega, cs_, hE]; (try simp only [List.append_assoc])⟩, HM5, ⟨HW5.out.cast (by (try rw [HE5.out]); rw [show (x5 + 1).toNat = x5.toNat + 1 by omega, cs_, hE]; (try simp only [List.append_assoc]))⟩⟩
    · have c3b0 : decide (x5 < (n : Int)) = false := decide_eq_false c3
      have hx1 : x5.toNat = n := by omega
      rw [hx1] at jx HW0
      subst jx
      go_wp2
      go_ret
      exact ⟨rfl, HM0.out, HW0.out⟩
set_option maxHeartbeats 8000000 in
set_option maxRecDepth 100000 in
theorem hd_heldStepS (P : Nat → Prop) (w : World) (A : Option Addr) (n c : Nat) (k : Int) (L : List Cel) (h : RowV P w (.pair .int (.pair .int (.pair .int (.pair .int .int)))) A n L) (hv : HeldAt w L k) (h0 : 0 ≤ k) (hk : k + (L.length : Int) ≤ 4611686018427387904) :
    Calls Try.prog 142 #[.slice A n c, .int .i64 k] w fun e w' => e = .returned (.int .i64 (k + (L.length : Int))) ∧ Drawn0 w w' := by
  obtain ⟨hn, Ls, rfl, h⟩ := h
  have HV := Aside0.mk hv
  clear hv
  go_enter Try.func142, Try.ntmps142
  go_wp2
  go_loopg [1, 5] n (fun kq v1 v5 w' => ∃ (x1 x5 : Int), v1 = .int .i64 x1 ∧ v5 = .int .i64 x5 ∧ Aside0 (0 ≤ x5 ∧ x5 + (kq : Int) = (n : Int) ∧ x1 = k + ((cat Ls x5.toNat).length : Int)) ∧ Drawn0 w w')
  case atStart => exact ⟨k, 0, rfl, rfl, ⟨by simp [cat]⟩, by repeat (first | exact Drawn0.refl _ | apply Drawn0.step)⟩
  case round =>
    obtain ⟨x1, x5, rfl, rfl, HJ, ⟨m1, rfl⟩⟩ := hrel
    obtain ⟨j0, j1, jx⟩ := HJ.out
    by_cases c3 : x5 < (n : Int)
    · have c3b0 : decide (x5 < (n : Int)) = true := decide_eq_true c3
      obtain ⟨g, rfl, hp, hi⟩ := h (by omega)
      have cl := cat_le Ls (j := x5.toNat) (n := n) (by omega)
      have cs_ := cat_succ Ls x5.toNat
      have hv := hi x5.toNat (by omega)
      have HE_ := Aside0.mk (HV.out.cat (j := x5.toNat) (by omega))
      generalize hLs : Ls x5.toNat = E at cl cs_ hv HE_
      obtain ⟨E0, D0, eE0, v0, r0⟩ := hv
      obtain ⟨e0, -⟩ := v0
      obtain ⟨E1, D1, eE1, v1, r1⟩ := r0
      obtain ⟨e1, -⟩ := v1
      obtain ⟨E2, D2, eE2, v2, r2⟩ := r1
      obtain ⟨e2, -⟩ := v2
      obtain ⟨E3, D3, eE3, v3, r3⟩ := r2
      obtain ⟨e3, -⟩ := v3
      obtain ⟨e4, -⟩ := r3
      have hE : E = [(g, x5.toNat * 5, false)] ++ ([(g, x5.toNat * 5 + 1, false)] ++ ([(g, x5.toNat * 5 + 2, false)] ++ ([(g, x5.toNat * 5 + 3, false)] ++ ([(g, x5.toNat * 5 + 4, false)])))) := by
        rw [eE0, eE1, eE2, eE3]; skip; (try rw [e0]); (try rw [e1]); (try rw [e2]); (try rw [e3]); (try rw [e4]); (try first | rfl | simp [Ty.sz])
      have hEl : E.length = 1 + 1 + 1 + 1 + 1 := by rw [hE]; (try simp only [List.length_append, List.length_cons, List.length_nil, Nat.zero_add]); (try omega)
      have p5 : (0 ≤ x5) = True := eq_true j0
      have q5 : (x5 < (n : Int)) = True := eq_true c3
      rw [hEl] at cl
      rw [hE] at HE_
      have e5 : wrap64 (x5 + 1) = x5 + 1 := wrap_in (by omega) (by omega)
      have HE5 := Aside0.mk e5
      have HCL := Aside0.mk cl
      have HC0 : Aside0 (x1 = k + ((cat Ls x5.toNat).length : Int)) := ⟨jx⟩
      have hx0 : w.cell? ⟨g, x5.toNat * 5, none⟩ = some (.int .i64 (x1)) := by rw [HeldAt.one (HE_.out.left), ← HC0.out]; rfl
      have HC1 : Aside0 (wrap64 (x1 + 1) = k + ((cat Ls x5.toNat).length : Int) + (([(g, x5.toNat * 5, false)] : List Cel).length : Int)) := ⟨by have h1_ := HC0.out; have h2_ := HCL.out; (try simp only [List.length_singleton] at h1_); simp only [List.length_singleton]; rw [wrap_in (n := x1 + 1)] <;> ((try push_cast at h1_); (try push_cast); omega)⟩
      have hx1 : w.cell? ⟨g, x5.toNat * 5 + 1, none⟩ = some (.int .i64 (wrap64 (x1 + 1))) := by rw [HeldAt.one (HE_.out.right.left), ← HC1.out]; rfl
      have HC2 : Aside0 (wrap64 (wrap64 (x1 + 1) + 1) = k + ((cat Ls x5.toNat).length : Int) + (([(g, x5.toNat * 5, false)] : List Cel).length : Int) + (([(g, x5.toNat * 5 + 1, false)] : List Cel).length : Int)) := ⟨by have h1_ := HC1.out; have h2_ := HCL.out; (try simp only [List.length_singleton] at h1_); simp only [List.length_singleton]; rw [wrap_in (n := wrap64 (x1 + 1) + 1)] <;> ((try push_cast at h1_); (try push_cast); omega)⟩
      have hx2 : w.cell? ⟨g, x5.toNat * 5 + 2, none⟩ = some (.int .i64 (wrap64 (wrap64 (x1 + 1) + 1))) := by rw [HeldAt.one (HE_.out.right.right.left), ← HC2.out]; rfl
      have HC3 : Aside0 (wrap64 (wrap64 (wrap64 (x1 + 1) + 1) + 1) = k + ((cat Ls x5.toNat).length : Int) + (([(g, x5.toNat * 5, false)] : List Cel).length : Int) + (([(g, x5.toNat * 5 + 1, false)] : List Cel).length : Int) + (([(g, x5.toNat * 5 + 2, false)] : List Cel).length : Int)) := ⟨by have h1_ := HC2.out; have h2_ := HCL.out; (try simp only [List.length_singleton] at h1_); simp only [List.length_singleton]; rw [wrap_in (n := wrap64 (wrap64 (x1 + 1) + 1) + 1)] <;> ((try push_cast at h1_); (try push_cast); omega)⟩
      have hx3 : w.cell? ⟨g, x5.toNat * 5 + 3, none⟩ = some (.int .i64 (wrap64 (wrap64 (wrap64 (x1 + 1) + 1) + 1))) := by rw [HeldAt.one (HE_.out.right.right.right.left), ← HC3.out]; rfl
      have HC4 : Aside0 (wrap64 (wrap64 (wrap64 (wrap64 (x1 + 1) + 1) + 1) + 1) = k + ((cat Ls x5.toNat).length : Int) + (([(g, x5.toNat * 5, false)] : List Cel).length : Int) + (([(g, x5.toNat * 5 + 1, false)] : List Cel).length : Int) + (([(g, x5.toNat * 5 + 2, false)] : List Cel).length : Int) + (([(g, x5.toNat * 5 + 3, false)] : List Cel).length : Int)) := ⟨by have h1_ := HC3.out; have h2_ := HCL.out; (try simp only [List.length_singleton] at h1_); simp only [List.length_singleton]; rw [wrap_in (n := wrap64 (wrap64 (wrap64 (x1 + 1) + 1) + 1) + 1)] <;> ((try push_cast at h1_); (try push_cast); omega)⟩
      have hx4 : w.cell? ⟨g, x5.toNat * 5 + 4, none⟩ = some (.int .i64 (wrap64 (wrap64 (wrap64 (wrap64 (x1 + 1) + 1) + 1) + 1))) := by rw [HeldAt.one (HE_.out.right.right.right.right), ← HC4.out]; rfl
      have HC5 : Aside0 (wrap64 (wrap64 (wrap64 (wrap64 (wrap64 (x1 + 1) + 1) + 1) + 1) + 1) = k + ((cat Ls x5.toNat).length : Int) + (([(g, x5.toNat * 5, false)] : List Cel).length : Int) + (([(g, x5.toNat * 5 + 1, false)] : List Cel).length : Int) + (([(g, x5.toNat * 5 + 2, false)] : List Cel).length : Int) + (([(g, x5.toNat * 5 + 3, false)] : List Cel).length : Int) + (([(g, x5.toNat * 5 + 4, false)] : List Cel).length : Int)) := ⟨by have h1_ := HC4.out; have h2_ := HCL.out; (try simp only [List.length_singleton] at h1_); simp only [List.length_singleton]; rw [wrap_in (n := wrap64 (wrap64 (wrap64 (wrap64 (x1 + 1) + 1) + 1) + 1) + 1)] <;> ((try push_cast at h1_); (try push_cast); omega)⟩
      clear HJ jx cl hEl e5 HE_
      go_wp2
      go_roundg (n - x5.toNat - 1)
      case measure => omega
      case rel => exact ⟨_, _, rfl, rfl, ⟨by have h1_ := HC5.out; have h5_ := HE5.out; refine ⟨by omega, by omega, ?_⟩; rw [h1_]; (try rw [h5_]); rw [show (x5 + 1).toNat = x5.toNat + 1 by omega, cs_, hE]; (try simp only [List.length_singleton]); (try simp only [List.length_append, List.length_cons, List.length_nil, Nat.zero_add]); push_cast; omega⟩, by repeat (first | exact Drawn0.refl _ | apply Drawn0.step)⟩
    · have c3b0 : decide (x5 < (n : Int)) = false := decide_eq_false c3
      have hx1 : x5.toNat = n := by omega
      rw [hx1] at jx
      subst jx
      go_wp2
      go_ret
      exact ⟨rfl, by repeat (first | exact Drawn0.refl _ | apply Drawn0.step)⟩
set_option maxHeartbeats 8000000 in
set_option maxRecDepth 100000 in
theorem wr_markNoteS (P : Nat → Prop) (w : World) (A : Option Addr) (n c : Nat) (k : Int) (L : List Cel) (h : RowV P w (.pair .int .int) A n L) (h0 : 0 ≤ k) (hk : k + (L.length : Int) ≤ 4611686018427387904) :
    Calls Try.prog 71 #[.slice A n c, .int .i64 k] w fun e w' => e = .returned (.int .i64 (k + (L.length : Int))) ∧ Mk P w w' ∧ Wr w L k w' := by
  obtain ⟨hn, Ls, rfl, h⟩ := h
  go_enter Try.func71, Try.ntmps71
  go_wp2
  go_loopg [1, 5] n (fun kq v1 v5 w' => ∃ (x1 x5 : Int), v1 = .int .i64 x1 ∧ v5 = .int .i64 x5 ∧ Aside0 (0 ≤ x5 ∧ x5 + (kq : Int) = (n : Int) ∧ x1 = k + ((cat Ls x5.toNat).length : Int)) ∧ Aside0 (Mk P w w') ∧ Aside0 (Wr w (cat Ls x5.toNat) k w'))
  case atStart => exact ⟨k, 0, rfl, rfl, ⟨by simp [cat]⟩, ⟨Mk.refl P w⟩, ⟨Wr.refl w k⟩⟩
  case round =>
    obtain ⟨x1, x5, rfl, rfl, HJ, HM0, HW0⟩ := hrel
    obtain ⟨j0, j1, jx⟩ := HJ.out
    by_cases c3 : x5 < (n : Int)
    · have c3b0 : decide (x5 < (n : Int)) = true := decide_eq_true c3
      obtain ⟨g, rfl, hp, hi⟩ := h (by omega)
      have cl := cat_le Ls (j := x5.toNat) (n := n) (by omega)
      have cs_ := cat_succ Ls x5.toNat
      have hv := hi x5.toNat (by omega)
      generalize hLs : Ls x5.toNat = E at cl cs_ hv
      obtain ⟨E0, D0, eE0, v0, r0⟩ := hv
      obtain ⟨e0, i0⟩ := v0
      have i0 : IntAt w g (x5.toNat * 2) := (by first | simpa using i0 | (simp [Ty.sz] at i0; exact i0) | exact i0)
      obtain ⟨e1, i1⟩ := r0
      have i1 : IntAt w g (x5.toNat * 2 + 1) := (by first | simpa using i1 | (simp [Ty.sz] at i1; exact i1) | exact i1)
      have hE : E = [(g, x5.toNat * 2, false)] ++ [(g, x5.toNat * 2 + 1, false)] := by
        rw [eE0]; skip; (try rw [e0]); (try rw [e1]); (try first | rfl | simp [Ty.sz])
      have hEl : E.length = 1 + 1 := by rw [hE]; (try simp only [List.length_append, List.length_cons, List.length_nil, Nat.zero_add])
      have p5 : (0 ≤ x5) = True := eq_true j0
      have q5 : (x5 < (n : Int)) = True := eq_true c3
      rw [hEl] at cl
      have e5 : wrap64 (x5 + 1) = x5 + 1 := wrap_in (by omega) (by omega)
      have HE5 := Aside0.mk e5
      have HC0 : Aside0 (x1 = k + ((cat Ls x5.toNat).length : Int)) := ⟨jx⟩
      have HCL := Aside0.mk cl
      obtain ⟨m0, hx0, hf0⟩ := (i0.mk HM0.out).cell
      have HM1 := Aside0.mk (HM0.out.set (u := .int .i64 (x1)) hp hx0 (.inr (.inl ⟨_, _, _, rfl, rfl⟩)))
      have HW1 := Aside0.mk (HW0.out.set (g := g) (o := x5.toNat * 2) false (v := .int .i64 (x1)) (by rw [HC0.out]; rfl))
      have HC1 : Aside0 (wrap64 (x1 + 1) = k + ((cat Ls x5.toNat ++ [(g, x5.toNat * 2, false)]).length : Int)) := ⟨by have h1_ := HC0.out; have h2_ := HCL.out; rw [List.length_append, List.length_singleton]; rw [wrap_in (n := x1 + 1)] <;> (push_cast; (try simp only [List.length_append, List.length_cons, List.length_nil, Nat.zero_add] at h1_); (try simp only [List.length_append, List.length_cons, List.length_nil, Nat.zero_add] at h2_); (try simp only [List.length_append, List.length_cons, List.length_nil, Nat.zero_add]); omega)⟩
      obtain ⟨m1, hx1, hf1⟩ := (i1.mk HM1.out).cell
      have HM2 := Aside0.mk (HM1.out.set (u := .int .i64 (wrap64 (x1 + 1))) hp hx1 (.inr (.inl ⟨_, _, _, rfl, rfl⟩)))
      have HW2 := Aside0.mk (HW1.out.set (g := g) (o := x5.toNat * 2 + 1) false (v := .int .i64 (wrap64 (x1 + 1))) (by rw [HC1.out]; rfl))
      have HC2 : Aside0 (wrap64 (wrap64 (x1 + 1) + 1) = k + ((cat Ls x5.toNat ++ [(g, x5.toNat * 2, false)] ++ [(g, x5.toNat * 2 + 1, false)]).length : Int)) := ⟨by have h1_ := HC1.out; have h2_ := HCL.out; rw [List.length_append, List.length_singleton]; rw [wrap_in (n := wrap64 (x1 + 1) + 1)] <;> (push_cast; (try simp only [List.length_append, List.length_cons, List.length_nil, Nat.zero_add] at h1_); (try simp only [List.length_append, List.length_cons, List.length_nil, Nat.zero_add] at h2_); (try simp only [List.length_append, List.length_cons, List.length_nil, Nat.zero_add]); omega)⟩
      clear HJ jx cl hEl e5
      go_wp2
      go_roundg (n - x5.toNat - 1)
      case measure => omega
      case rel => exact ⟨_, _, rfl, rfl, ⟨by have h1_ := HC2.out; have h5_ := HE5.out; refine ⟨by omega, by omega, ?_⟩; rw [h1_]; (try rw [h5_]); rw [show (x5 + 1).toNat = x5.toNat + 1 by omega, cs_, hE]; (try simp only [List.append_assoc])⟩, HM2, ⟨HW2.out.cast (by (try rw [HE5.out]); rw [show (x5 + 1).toNat = x5.toNat + 1 by omega, cs_, hE]; (try simp only [List.append_assoc]))⟩⟩
    · have c3b0 : decide (x5 < (n : Int)) = false := decide_eq_false c3
      have hx1 : x5.toNat = n := by omega
      rw [hx1] at jx HW0
      subst jx
      go_wp2
      go_ret
      exact ⟨rfl, HM0.out, HW0.out⟩
set_option maxHeartbeats 8000000 in
set_option maxRecDepth 100000 in
theorem hd_heldNoteS (P : Nat → Prop) (w : World) (A : Option Addr) (n c : Nat) (k : Int) (L : List Cel) (h : RowV P w (.pair .int .int) A n L) (hv : HeldAt w L k) (h0 : 0 ≤ k) (hk : k + (L.length : Int) ≤ 4611686018427387904) :
    Calls Try.prog 74 #[.slice A n c, .int .i64 k] w fun e w' => e = .returned (.int .i64 (k + (L.length : Int))) ∧ Drawn0 w w' := by
  obtain ⟨hn, Ls, rfl, h⟩ := h
  have HV := Aside0.mk hv
  clear hv
  go_enter Try.func74, Try.ntmps74
  go_wp2
  go_loopg [1, 5] n (fun kq v1 v5 w' => ∃ (x1 x5 : Int), v1 = .int .i64 x1 ∧ v5 = .int .i64 x5 ∧ Aside0 (0 ≤ x5 ∧ x5 + (kq : Int) = (n : Int) ∧ x1 = k + ((cat Ls x5.toNat).length : Int)) ∧ Drawn0 w w')
  case atStart => exact ⟨k, 0, rfl, rfl, ⟨by simp [cat]⟩, by repeat (first | exact Drawn0.refl _ | apply Drawn0.step)⟩
  case round =>
    obtain ⟨x1, x5, rfl, rfl, HJ, ⟨m1, rfl⟩⟩ := hrel
    obtain ⟨j0, j1, jx⟩ := HJ.out
    by_cases c3 : x5 < (n : Int)
    · have c3b0 : decide (x5 < (n : Int)) = true := decide_eq_true c3
      obtain ⟨g, rfl, hp, hi⟩ := h (by omega)
      have cl := cat_le Ls (j := x5.toNat) (n := n) (by omega)
      have cs_ := cat_succ Ls x5.toNat
      have hv := hi x5.toNat (by omega)
      have HE_ := Aside0.mk (HV.out.cat (j := x5.toNat) (by omega))
      generalize hLs : Ls x5.toNat = E at cl cs_ hv HE_
      obtain ⟨E0, D0, eE0, v0, r0⟩ := hv
      obtain ⟨e0, -⟩ := v0
      obtain ⟨e1, -⟩ := r0
      have hE : E = [(g, x5.toNat * 2, false)] ++ ([(g, x5.toNat * 2 + 1, false)]) := by
        rw [eE0]; skip; (try rw [e0]); (try rw [e1]); (try first | rfl | simp [Ty.sz])
      have hEl : E.length = 1 + 1 := by rw [hE]; (try simp only [List.length_append, List.length_cons, List.length_nil, Nat.zero_add]); (try omega)
      have p5 : (0 ≤ x5) = True := eq_true j0
      have q5 : (x5 < (n : Int)) = True := eq_true c3
      rw [hEl] at cl
      rw [hE] at HE_
      have e5 : wrap64 (x5 + 1) = x5 + 1 := wrap_in (by omega) (by omega)
      have HE5 := Aside0.mk e5
      have HCL := Aside0.mk cl
      have HC0 : Aside0 (x1 = k + ((cat Ls x5.toNat).length : Int)) := ⟨jx⟩
      have hx0 : w.cell? ⟨g, x5.toNat * 2, none⟩ = some (.int .i64 (x1)) := by rw [HeldAt.one (HE_.out.left), ← HC0.out]; rfl
      have HC1 : Aside0 (wrap64 (x1 + 1) = k + ((cat Ls x5.toNat).length : Int) + (([(g, x5.toNat * 2, false)] : List Cel).length : Int)) := ⟨by have h1_ := HC0.out; have h2_ := HCL.out; (try simp only [List.length_singleton] at h1_); simp only [List.length_singleton]; rw [wrap_in (n := x1 + 1)] <;> ((try push_cast at h1_); (try push_cast); omega)⟩
      have hx1 : w.cell? ⟨g, x5.toNat * 2 + 1, none⟩ = some (.int .i64 (wrap64 (x1 + 1))) := by rw [HeldAt.one (HE_.out.right), ← HC1.out]; rfl
      have HC2 : Aside0 (wrap64 (wrap64 (x1 + 1) + 1) = k + ((cat Ls x5.toNat).length : Int) + (([(g, x5.toNat * 2, false)] : List Cel).length : Int) + (([(g, x5.toNat * 2 + 1, false)] : List Cel).length : Int)) := ⟨by have h1_ := HC1.out; have h2_ := HCL.out; (try simp only [List.length_singleton] at h1_); simp only [List.length_singleton]; rw [wrap_in (n := wrap64 (x1 + 1) + 1)] <;> ((try push_cast at h1_); (try push_cast); omega)⟩
      clear HJ jx cl hEl e5 HE_
      go_wp2
      go_roundg (n - x5.toNat - 1)
      case measure => omega
      case rel => exact ⟨_, _, rfl, rfl, ⟨by have h1_ := HC2.out; have h5_ := HE5.out; refine ⟨by omega, by omega, ?_⟩; rw [h1_]; (try rw [h5_]); rw [show (x5 + 1).toNat = x5.toNat + 1 by omega, cs_, hE]; (try simp only [List.length_singleton]); (try simp only [List.length_append, List.length_cons, List.length_nil, Nat.zero_add]); push_cast; omega⟩, by repeat (first | exact Drawn0.refl _ | apply Drawn0.step)⟩
    · have c3b0 : decide (x5 < (n : Int)) = false := decide_eq_false c3
      have hx1 : x5.toNat = n := by omega
      rw [hx1] at jx
      subst jx
      go_wp2
      go_ret
      exact ⟨rfl, by repeat (first | exact Drawn0.refl _ | apply Drawn0.step)⟩
set_option maxHeartbeats 8000000 in
set_option maxRecDepth 100000 in
theorem wr_markWriteS (P : Nat → Prop) (w : World) (A : Option Addr) (n c : Nat) (k : Int) (L : List Cel) (h : RowV P w (.pair .int (.sl .int)) A n L) (h0 : 0 ≤ k) (hk : k + (L.length : Int) ≤ 4611686018427387904) :
    Calls Try.prog 169 #[.slice A n c, .int .i64 k] w fun e w' => e = .returned (.int .i64 (k + (L.length : Int))) ∧ Mk P w w' ∧ Wr w L k w' := by
  obtain ⟨hn, Ls, rfl, h⟩ := h
  go_enter Try.func169, Try.ntmps169
  go_wp2
  go_loopg [1, 5] n (fun kq v1 v5 w' => ∃ (x1 x5 : Int), v1 = .int .i64 x1 ∧ v5 = .int .i64 x5 ∧ Aside0 (0 ≤ x5 ∧ x5 + (kq : Int) = (n : Int) ∧ x1 = k + ((cat Ls x5.toNat).length : Int)) ∧ Aside0 (Mk P w w') ∧ Aside0 (Wr w (cat Ls x5.toNat) k w'))
  case atStart => exact ⟨k, 0, rfl, rfl, ⟨by simp [cat]⟩, ⟨Mk.refl P w⟩, ⟨Wr.refl w k⟩⟩
  case round =>
    obtain ⟨x1, x5, rfl, rfl, HJ, HM0, HW0⟩ := hrel
    obtain ⟨j0, j1, jx⟩ := HJ.out
    by_cases c3 : x5 < (n : Int)
    · have c3b0 : decide (x5 < (n : Int)) = true := decide_eq_true c3
      obtain ⟨g, rfl, hp, hi⟩ := h (by omega)
      have cl := cat_le Ls (j := x5.toNat) (n := n) (by omega)
      have cs_ := cat_succ Ls x5.toNat
      have hv := hi x5.toNat (by omega)
      generalize hLs : Ls x5.toNat = E at cl cs_ hv
      obtain ⟨E0, D0, eE0, v0, r0⟩ := hv
      obtain ⟨e0, i0⟩ := v0
      have i0 : IntAt w g (x5.toNat * 2) := (by first | simpa using i0 | (simp [Ty.sz] at i0; exact i0) | exact i0)
      obtain ⟨B1, n1, c1, s1, V1⟩ := r0
      have s1 : SlAt w g (x5.toNat * 2 + 1) B1 n1 c1 := (by first | simpa using s1 | (simp [Ty.sz] at s1; exact s1) | exact s1)
      have V1 : ∃ M, D0 = M ∧ RowV P w .int B1 n1 M := ⟨_, rfl, V1⟩
      obtain ⟨M1, eM1, V1⟩ := V1
      have hE : E = [(g, x5.toNat * 2, false)] ++ M1 := by
        rw [eE0]; skip; (try rw [e0]); (try rw [eM1]); (try first | rfl | simp [Ty.sz])
      have hEl : E.length = 1 + M1.length := by rw [hE]; (try simp only [List.length_append, List.length_cons, List.length_nil, Nat.zero_add])
      have p5 : (0 ≤ x5) = True := eq_true j0
      have q5 : (x5 < (n : Int)) = True := eq_true c3
      rw [hEl] at cl
      have e5 : wrap64 (x5 + 1) = x5 + 1 := wrap_in (by omega) (by omega)
      have HE5 := Aside0.mk e5
      have HC0 : Aside0 (x1 = k + ((cat Ls x5.toNat).length : Int)) := ⟨jx⟩
      have HCL := Aside0.mk cl
      obtain ⟨m0, hx0, hf0⟩ := (i0.mk HM0.out).cell
      have HM1 := Aside0.mk (HM0.out.set (u := .int .i64 (x1)) hp hx0 (.inr (.inl ⟨_, _, _, rfl, rfl⟩)))
      have HW1 := Aside0.mk (HW0.out.set (g := g) (o := x5.toNat * 2) false (v := .int .i64 (x1)) (by rw [HC0.out]; rfl))
      have HC1 : Aside0 (wrap64 (x1 + 1) = k + ((cat Ls x5.toNat ++ [(g, x5.toNat * 2, false)]).length : Int)) := ⟨by have h1_ := HC0.out; have h2_ := HCL.out; rw [List.length_append, List.length_singleton]; rw [wrap_in (n := x1 + 1)] <;> (push_cast; (try simp only [List.length_append, List.length_cons, List.length_nil, Nat.zero_add] at h1_); (try simp only [List.length_append, List.length_cons, List.length_nil, Nat.zero_add] at h2_); (try simp only [List.length_append, List.length_cons, List.length_nil, Nat.zero_add]); omega)⟩
      have hs1 := (s1.mk HM1.out).cell
      have hV1 := Aside0.mk (V1.mk HM1.out)
      have HH1 : Aside0 (0 ≤ wrap64 (x1 + 1) ∧ wrap64 (x1 + 1) + (M1.length : Int) ≤ 4611686018427387904) := ⟨by have h1_ := HC1.out; have h2_ := HCL.out; (try simp only [List.length_append, List.length_cons, List.length_nil, Nat.zero_add] at h1_); (try simp only [List.length_append, List.length_cons, List.length_nil, Nat.zero_add] at h2_); omega⟩
      clear HJ jx cl hEl e5
      go_wp2_with (first | ((with_reducible refine gate_callee (f := 40) rfl ?_); refine goesL_ (some 25) rfl rfl Try.func40 (by kernel_rfl) rfl #[.slice B1 n1 c1, .int .i64 (wrap64 (x1 + 1))] rfl (by (try simp only [List.map_toArray, List.map_cons, List.map_nil]); first | done | rfl | (simp; done)) ?_; refine (wr_markIntS P _ B1 n1 c1 (wrap64 (x1 + 1)) M1 hV1.out HH1.out.1 HH1.out.2).mono ?_; rintro e w3 ⟨rfl, hm, hw⟩; refine ⟨_, rfl, ?_⟩; have HM2 := Aside0.mk (HM1.out.trans hm); have HW2 := Aside0.mk (HW1.out.trans hw HC1.out); clear hm hw; have HC2 : Aside0 (wrap64 (x1 + 1) + (M1.length : Int) = k + ((cat Ls x5.toNat ++ [(g, x5.toNat * 2, false)] ++ M1).length : Int)) := ⟨by have h1_ := HC1.out; rw [List.length_append]; push_cast; omega⟩))
      go_roundg (n - x5.toNat - 1)
      case measure => omega
      case rel => exact ⟨_, _, rfl, rfl, ⟨by have h1_ := HC2.out; have h5_ := HE5.out; refine ⟨by omega, by omega, ?_⟩; rw [h1_]; (try rw [h5_]); rw [show (x5 + 1).toNat = x5.toNat + 1 by omega, cs_, hE]; (try simp only [List.append_assoc])⟩, HM2, ⟨HW2.out.cast (by (try rw [HE5.out]); rw [show (x5 + 1).toNat = x5.toNat + 1 by omega, cs_, hE]; (try simp only [List.append_assoc]))⟩⟩
    · have c3b0 : decide (x5 < (n : Int)) = false := decide_eq_false c3
      have hx1 : x5.toNat = n := by omega
      rw [hx1] at jx HW0
      subst jx
      go_wp2
      go_ret
      exact ⟨rfl, HM0.out, HW0.out⟩
set_option maxHeartbeats 8000000 in
set_option maxRecDepth 100000 in
theorem hd_heldWriteS (P : Nat → Prop) (w : World) (A : Option Addr) (n c : Nat) (k : Int) (L : List Cel) (h : RowV P w (.pair .int (.sl .int)) A n L) (hv : HeldAt w L k) (h0 : 0 ≤ k) (hk : k + (L.length : Int) ≤ 4611686018427387904) :
    Calls Try.prog 170 #[.slice A n c, .int .i64 k] w fun e w' => e = .returned (.int .i64 (k + (L.length : Int))) ∧ Drawn0 w w' := by
  obtain ⟨hn, Ls, rfl, h⟩ := h
  have HV := Aside0.mk hv
  clear hv
  go_enter Try.func170, Try.ntmps170
  go_wp2
  go_loopg [1, 5] n (fun kq v1 v5 w' => ∃ (x1 x5 : Int), v1 = .int .i64 x1 ∧ v5 = .int .i64 x5 ∧ Aside0 (0 ≤ x5 ∧ x5 + (kq : Int) = (n : Int) ∧ x1 = k + ((cat Ls x5.toNat).length : Int)) ∧ Drawn0 w w')
  case atStart => exact ⟨k, 0, rfl, rfl, ⟨by simp [cat]⟩, by repeat (first | exact Drawn0.refl _ | apply Drawn0.step)⟩
  case round =>
    obtain ⟨x1, x5, rfl, rfl, HJ, ⟨m1, rfl⟩⟩ := hrel
    obtain ⟨j0, j1, jx⟩ := HJ.out
    by_cases c3 : x5 < (n : Int)
    · have c3b0 : decide (x5 < (n : Int)) = true := decide_eq_true c3
      obtain ⟨g, rfl, hp, hi⟩ := h (by omega)
      have cl := cat_le Ls (j := x5.toNat) (n := n) (by omega)
      have cs_ := cat_succ Ls x5.toNat
      have hv := hi x5.toNat (by omega)
      have HE_ := Aside0.mk (HV.out.cat (j := x5.toNat) (by omega))
      generalize hLs : Ls x5.toNat = E at cl cs_ hv HE_
      obtain ⟨E0, D0, eE0, v0, r0⟩ := hv
      obtain ⟨e0, -⟩ := v0
      obtain ⟨B1, n1, c1, s1, V1⟩ := r0
      have s1 : SlAt w g (x5.toNat * 2 + 1) B1 n1 c1 := (by first | simpa using s1 | (simp [Ty.sz] at s1; exact s1) | exact s1)
      have V1 : ∃ M, D0 = M ∧ RowV P w .int B1 n1 M := ⟨_, rfl, V1⟩
      obtain ⟨M1, eM1, V1⟩ := V1
      have hE : E = [(g, x5.toNat * 2, false)] ++ (M1) := by
        rw [eE0]; skip; (try rw [e0]); (try rw [eM1]); (try first | rfl | simp [Ty.sz])
      have hEl : E.length = 1 + M1.length := by rw [hE]; (try simp only [List.length_append, List.length_cons, List.length_nil, Nat.zero_add]); (try omega)
      have p5 : (0 ≤ x5) = True := eq_true j0
      have q5 : (x5 < (n : Int)) = True := eq_true c3
      rw [hEl] at cl
      rw [hE] at HE_
      have e5 : wrap64 (x5 + 1) = x5 + 1 := wrap_in (by omega) (by omega)
      have HE5 := Aside0.mk e5
      have HCL := Aside0.mk cl
      have HC0 : Aside0 (x1 = k + ((cat Ls x5.toNat).length : Int)) := ⟨jx⟩
      have hx0 : w.cell? ⟨g, x5.toNat * 2, none⟩ = some (.int .i64 (x1)) := by rw [HeldAt.one (HE_.out.left), ← HC0.out]; rfl
      have HC1 : Aside0 (wrap64 (x1 + 1) = k + ((cat Ls x5.toNat).length : Int) + (([(g, x5.toNat * 2, false)] : List Cel).length : Int)) := ⟨by have h1_ := HC0.out; have h2_ := HCL.out; (try simp only [List.length_singleton] at h1_); simp only [List.length_singleton]; rw [wrap_in (n := x1 + 1)] <;> ((try push_cast at h1_); (try push_cast); omega)⟩
      have hs1 := s1.cell
      have HH1 : Aside0 (HeldAt w M1 (wrap64 (x1 + 1)) ∧ 0 ≤ wrap64 (x1 + 1) ∧ wrap64 (x1 + 1) + (M1.length : Int) ≤ 4611686018427387904) := ⟨by have h1_ := HC1.out; have h2_ := HCL.out; refine ⟨by rw [h1_]; exact HE_.out.right, ?_, ?_⟩ <;> ((try simp only [List.length_singleton] at h1_); (try push_cast at h1_); (try simp only [List.length_append, List.length_cons, List.length_nil, Nat.zero_add] at h1_); (try simp only [List.length_append, List.length_cons, List.length_nil, Nat.zero_add] at h2_); omega)⟩
      have hl1 : decide (wrap64 (x1 + 1) + (M1.length : Int) < 0) = false := decide_eq_false (by have h1_ := HH1.out.2.1; omega)
      have HC2 : Aside0 (wrap64 (x1 + 1) + (M1.length : Int) = k + ((cat Ls x5.toNat).length : Int) + (([(g, x5.toNat * 2, false)] : List Cel).length : Int) + (M1.length : Int)) := ⟨by have h1_ := HC1.out; omega⟩
      clear HJ jx cl hEl e5 HE_
      go_wp2_with (first | ((with_reducible refine gate_callee (f := 41) rfl ?_); refine goesL_ (some 27) rfl rfl Try.func41 (by kernel_rfl) rfl #[.slice B1 n1 c1, .int .i64 (wrap64 (x1 + 1))] rfl (by (try simp only [List.map_toArray, List.map_cons, List.map_nil]); first | done | rfl | (simp; done)) ?_; refine (hd_heldIntS P _ B1 n1 c1 (wrap64 (x1 + 1)) M1 (by repeat (first | exact V1 | apply RowV.drewN)) (by repeat (first | exact HH1.out.1 | apply HeldAt.drewN)) HH1.out.2.1 HH1.out.2.2).mono ?_; rintro e w3 ⟨rfl, ⟨nd1, rfl⟩⟩; refine ⟨_, rfl, ?_⟩))
      go_roundg (n - x5.toNat - 1)
      case measure => omega
      case rel => exact ⟨_, _, rfl, rfl, ⟨by have h1_ := HC2.out; have h5_ := HE5.out; refine ⟨by omega, by omega, ?_⟩; rw [h1_]; (try rw [h5_]); rw [show (x5 + 1).toNat = x5.toNat + 1 by omega, cs_, hE]; (try simp only [List.length_singleton]); (try simp only [List.length_append, List.length_cons, List.length_nil, Nat.zero_add]); push_cast; omega⟩, by repeat (first | exact Drawn0.refl _ | apply Drawn0.step)⟩
    · have c3b0 : decide (x5 < (n : Int)) = false := decide_eq_false c3
      have hx1 : x5.toNat = n := by omega
      rw [hx1] at jx
      subst jx
      go_wp2
      go_ret
      exact ⟨rfl, by repeat (first | exact Drawn0.refl _ | apply Drawn0.step)⟩
set_option maxHeartbeats 8000000 in
set_option maxRecDepth 100000 in
theorem wr_markCoreS (P : Nat → Prop) (w : World) (A : Option Addr) (n c : Nat) (k : Int) (L : List Cel) (h : RowV P w (.pair .int (.pair (.sl .int) (.pair (.sl .int) .int))) A n L) (h0 : 0 ≤ k) (hk : k + (L.length : Int) ≤ 4611686018427387904) :
    Calls Try.prog 86 #[.slice A n c, .int .i64 k] w fun e w' => e = .returned (.int .i64 (k + (L.length : Int))) ∧ Mk P w w' ∧ Wr w L k w' := by
  obtain ⟨hn, Ls, rfl, h⟩ := h
  go_enter Try.func86, Try.ntmps86
  go_wp2
  go_loopg [1, 5] n (fun kq v1 v5 w' => ∃ (x1 x5 : Int), v1 = .int .i64 x1 ∧ v5 = .int .i64 x5 ∧ Aside0 (0 ≤ x5 ∧ x5 + (kq : Int) = (n : Int) ∧ x1 = k + ((cat Ls x5.toNat).length : Int)) ∧ Aside0 (Mk P w w') ∧ Aside0 (Wr w (cat Ls x5.toNat) k w'))
  case atStart => exact ⟨k, 0, rfl, rfl, ⟨by simp [cat]⟩, ⟨Mk.refl P w⟩, ⟨Wr.refl w k⟩⟩
  case round =>
    obtain ⟨x1, x5, rfl, rfl, HJ, HM0, HW0⟩ := hrel
    obtain ⟨j0, j1, jx⟩ := HJ.out
    by_cases c3 : x5 < (n : Int)
    · have c3b0 : decide (x5 < (n : Int)) = true := decide_eq_true c3
      obtain ⟨g, rfl, hp, hi⟩ := h (by omega)
      have cl := cat_le Ls (j := x5.toNat) (n := n) (by omega)
      have cs_ := cat_succ Ls x5.toNat
      have hv := hi x5.toNat (by omega)
      generalize hLs : Ls x5.toNat = E at cl cs_ hv
      obtain ⟨E0, D0, eE0, v0, r0⟩ := hv
      obtain ⟨e0, i0⟩ := v0
      have i0 : IntAt w g (x5.toNat * 4) := (by first | simpa using i0 | (simp [Ty.sz] at i0; exact i0) | exact i0)
      obtain ⟨E1, D1, eE1, v1, r1⟩ := r0
      obtain ⟨B1, n1, c1, s1, V1⟩ := v1
      have s1 : SlAt w g (x5.toNat * 4 + 1) B1 n1 c1 := (by first | simpa using s1 | (simp [Ty.sz] at s1; exact s1) | exact s1)
      have V1 : ∃ M, E1 = M ∧ RowV P w .int B1 n1 M := ⟨_, rfl, V1⟩
      obtain ⟨M1, eM1, V1⟩ := V1
      obtain ⟨E2, D2, eE2, v2, r2⟩ := r1
      obtain ⟨B2, n2, c2, s2, V2⟩ := v2
      have s2 : SlAt w g (x5.toNat * 4 + 2) B2 n2 c2 := (by first | simpa using s2 | (simp [Ty.sz] at s2; exact s2) | exact s2)
      have V2 : ∃ M, E2 = M ∧ RowV P w .int B2 n2 M := ⟨_, rfl, V2⟩
      obtain ⟨M2, eM2, V2⟩ := V2
      obtain ⟨e3, i3⟩ := r2
      have i3 : IntAt w g (x5.toNat * 4 + 3) := (by first | simpa using i3 | (simp [Ty.sz] at i3; exact i3) | exact i3)
      have hE : E = [(g, x5.toNat * 4, false)] ++ M1 ++ M2 ++ [(g, x5.toNat * 4 + 3, false)] := by
        rw [eE0, eE1, eE2]; skip; (try rw [e0]); (try rw [eM1]); (try rw [eM2]); (try rw [e3]); (try first | rfl | simp [Ty.sz])
      have hEl : E.length = 1 + M1.length + M2.length + 1 := by rw [hE]; (try simp only [List.length_append, List.length_cons, List.length_nil, Nat.zero_add])
      have p5 : (0 ≤ x5) = True := eq_true j0
      have q5 : (x5 < (n : Int)) = True := eq_true c3
      rw [hEl] at cl
      have e5 : wrap64 (x5 + 1) = x5 + 1 := wrap_in (by omega) (by omega)
      have HE5 := Aside0.mk e5
      have HC0 : Aside0 (x1 = k + ((cat Ls x5.toNat).length : Int)) := ⟨jx⟩
      have HCL := Aside0.mk cl
      obtain ⟨m0, hx0, hf0⟩ := (i0.mk HM0.out).cell
      have HM1 := Aside0.mk (HM0.out.set (u := .int .i64 (x1)) hp hx0 (.inr (.inl ⟨_, _, _, rfl, rfl⟩)))
      have HW1 := Aside0.mk (HW0.out.set (g := g) (o := x5.toNat * 4) false (v := .int .i64 (x1)) (by rw [HC0.out]; rfl))
      have HC1 : Aside0 (wrap64 (x1 + 1) = k + ((cat Ls x5.toNat ++ [(g, x5.toNat * 4, false)]).length : Int)) := ⟨by have h1_ := HC0.out; have h2_ := HCL.out; rw [List.length_append, List.length_singleton]; rw [wrap_in (n := x1 + 1)] <;> (push_cast; (try simp only [List.length_append, List.length_cons, List.length_nil, Nat.zero_add] at h1_); (try simp only [List.length_append, List.length_cons, List.length_nil, Nat.zero_add] at h2_); (try simp only [List.length_append, List.length_cons, List.length_nil, Nat.zero_add]); omega)⟩
      have hs1 := (s1.mk HM1.out).cell
      have hV1 := Aside0.mk (V1.mk HM1.out)
      have HH1 : Aside0 (0 ≤ wrap64 (x1 + 1) ∧ wrap64 (x1 + 1) + (M1.length : Int) ≤ 4611686018427387904) := ⟨by have h1_ := HC1.out; have h2_ := HCL.out; (try simp only [List.length_append, List.length_cons, List.length_nil, Nat.zero_add] at h1_); (try simp only [List.length_append, List.length_cons, List.length_nil, Nat.zero_add] at h2_); omega⟩
      clear HJ jx cl hEl e5
      go_wp2_with (first | ((with_reducible refine gate_callee (f := 40) rfl ?_); refine goesL_ (some 25) rfl rfl Try.func40 (by kernel_rfl) rfl #[.slice B1 n1 c1, .int .i64 (wrap64 (x1 + 1))] rfl (by (try simp only [List.map_toArray, List.map_cons, List.map_nil]); first | done | rfl | (simp; done)) ?_; refine (wr_markIntS P _ B1 n1 c1 (wrap64 (x1 + 1)) M1 hV1.out HH1.out.1 HH1.out.2).mono ?_; rintro e w3 ⟨rfl, hm, hw⟩; refine ⟨_, rfl, ?_⟩; have HM2 := Aside0.mk (HM1.out.trans hm); have HW2 := Aside0.mk (HW1.out.trans hw HC1.out); clear hm hw; have HC2 : Aside0 (wrap64 (x1 + 1) + (M1.length : Int) = k + ((cat Ls x5.toNat ++ [(g, x5.toNat * 4, false)] ++ M1).length : Int)) := ⟨by have h1_ := HC1.out; rw [List.length_append]; push_cast; omega⟩; have hs2 := (s2.mk HM2.out).cell; have hV2 := Aside0.mk (V2.mk HM2.out); have HH2 : Aside0 (0 ≤ wrap64 (x1 + 1) + (M1.length : Int) ∧ wrap64 (x1 + 1) + (M1.length : Int) + (M2.length : Int) ≤ 4611686018427387904) := ⟨by have h1_ := HC2.out; have h2_ := HCL.out; (try simp only [List.length_append, List.length_cons, List.length_nil, Nat.zero_add] at h1_); (try simp only [List.length_append, List.length_cons, List.length_nil, Nat.zero_add] at h2_); omega⟩) | ((with_reducible refine gate_callee (f := 40) rfl ?_); refine goesL_ (some 32) rfl rfl Try.func40 (by kernel_rfl) rfl #[.slice B2 n2 c2, .int .i64 (wrap64 (x1 + 1) + (M1.length : Int))] rfl (by (try simp only [List.map_toArray, List.map_cons, List.map_nil]); first | done | rfl | (simp; done)) ?_; refine (wr_markIntS P _ B2 n2 c2 (wrap64 (x1 + 1) + (M1.length : Int)) M2 hV2.out HH2.out.1 HH2.out.2).mono ?_; rintro e w4 ⟨rfl, hm, hw⟩; refine ⟨_, rfl, ?_⟩; have HM3 := Aside0.mk (HM2.out.trans hm); have HW3 := Aside0.mk (HW2.out.trans hw HC2.out); clear hm hw; have HC3 : Aside0 (wrap64 (x1 + 1) + (M1.length : Int) + (M2.length : Int) = k + ((cat Ls x5.toNat ++ [(g, x5.toNat * 4, false)] ++ M1 ++ M2).length : Int)) := ⟨by have h1_ := HC2.out; rw [List.length_append]; push_cast; omega⟩; obtain ⟨m3, hx3, hf3⟩ := (i3.mk HM3.out).cell; have HM4 := Aside0.mk (HM3.out.set (u := .int .i64 (wrap64 (x1 + 1) + (M1.length : Int) + (M2.length : Int))) hp hx3 (.inr (.inl ⟨_, _, _, rfl, rfl⟩))); have HW4 := Aside0.mk (HW3.out.set (g := g) (o := x5.toNat * 4 + 3) false (v := .int .i64 (wrap64 (x1 + 1) + (M1.length : Int) + (M2.length : Int))) (by rw [HC3.out]; rfl)); have HC4 : Aside0 (wrap64 (wrap64 (x1 + 1) + (M1.length : Int) + (M2.length : Int) + 1) = k + ((cat Ls x5.toNat ++ [(g, x5.toNat * 4, false)] ++ M1 ++ M2 ++ [(g, x5.toNat * 4 + 3, false)]).length : Int)) := ⟨by have h1_ := HC3.out; have h2_ := HCL.out; rw [List.length_append, List.length_singleton]; rw [wrap_in (n := wrap64 (x1 + 1) + (M1.length : Int) + (M2.length : Int) + 1)] <;> (push_cast; (try simp only [List.length_append, List.length_cons, List.length_nil, Nat.zero_add] at h1_); (try simp only [List.length_append, List.length_cons, List.length_nil, Nat.zero_add] at h2_); (try simp only [List.length_append, List.length_cons, List.length_nil, Nat.zero_add]); omega)⟩))
      go_roundg (n - x5.toNat - 1)
      case measure => omega
      case rel => exact ⟨_, _, rfl, rfl, ⟨by have h1_ := HC4.out; have h5_ := HE5.out; refine ⟨by omega, by omega, ?_⟩; rw [h1_]; (try rw [h5_]); rw [show (x5 + 1).toNat = x5.toNat + 1 by omega, cs_, hE]; (try simp only [List.append_assoc])⟩, HM4, ⟨HW4.out.cast (by (try rw [HE5.out]); rw [show (x5 + 1).toNat = x5.toNat + 1 by omega, cs_, hE]; (try simp only [List.append_assoc]))⟩⟩
    · have c3b0 : decide (x5 < (n : Int)) = false := decide_eq_false c3
      have hx1 : x5.toNat = n := by omega
      rw [hx1] at jx HW0
      subst jx
      go_wp2
      go_ret
      exact ⟨rfl, HM0.out, HW0.out⟩
set_option maxHeartbeats 8000000 in
set_option maxRecDepth 100000 in
theorem hd_heldCoreS (P : Nat → Prop) (w : World) (A : Option Addr) (n c : Nat) (k : Int) (L : List Cel) (h : RowV P w (.pair .int (.pair (.sl .int) (.pair (.sl .int) .int))) A n L) (hv : HeldAt w L k) (h0 : 0 ≤ k) (hk : k + (L.length : Int) ≤ 4611686018427387904) :
    Calls Try.prog 89 #[.slice A n c, .int .i64 k] w fun e w' => e = .returned (.int .i64 (k + (L.length : Int))) ∧ Drawn0 w w' := by
  obtain ⟨hn, Ls, rfl, h⟩ := h
  have HV := Aside0.mk hv
  clear hv
  go_enter Try.func89, Try.ntmps89
  go_wp2
  go_loopg [1, 5] n (fun kq v1 v5 w' => ∃ (x1 x5 : Int), v1 = .int .i64 x1 ∧ v5 = .int .i64 x5 ∧ Aside0 (0 ≤ x5 ∧ x5 + (kq : Int) = (n : Int) ∧ x1 = k + ((cat Ls x5.toNat).length : Int)) ∧ Drawn0 w w')
  case atStart => exact ⟨k, 0, rfl, rfl, ⟨by simp [cat]⟩, by repeat (first | exact Drawn0.refl _ | apply Drawn0.step)⟩
  case round =>
    obtain ⟨x1, x5, rfl, rfl, HJ, ⟨m1, rfl⟩⟩ := hrel
    obtain ⟨j0, j1, jx⟩ := HJ.out
    by_cases c3 : x5 < (n : Int)
    · have c3b0 : decide (x5 < (n : Int)) = true := decide_eq_true c3
      obtain ⟨g, rfl, hp, hi⟩ := h (by omega)
      have cl := cat_le Ls (j := x5.toNat) (n := n) (by omega)
      have cs_ := cat_succ Ls x5.toNat
      have hv := hi x5.toNat (by omega)
      have HE_ := Aside0.mk (HV.out.cat (j := x5.toNat) (by omega))
      generalize hLs : Ls x5.toNat = E at cl cs_ hv HE_
      obtain ⟨E0, D0, eE0, v0, r0⟩ := hv
      obtain ⟨e0, -⟩ := v0
      obtain ⟨E1, D1, eE1, v1, r1⟩ := r0
      obtain ⟨B1, n1, c1, s1, V1⟩ := v1
      have s1 : SlAt w g (x5.toNat * 4 + 1) B1 n1 c1 := (by first | simpa using s1 | (simp [Ty.sz] at s1; exact s1) | exact s1)
      have V1 : ∃ M, E1 = M ∧ RowV P w .int B1 n1 M := ⟨_, rfl, V1⟩
      obtain ⟨M1, eM1, V1⟩ := V1
      obtain ⟨E2, D2, eE2, v2, r2⟩ := r1
      obtain ⟨B2, n2, c2, s2, V2⟩ := v2
      have s2 : SlAt w g (x5.toNat * 4 + 2) B2 n2 c2 := (by first | simpa using s2 | (simp [Ty.sz] at s2; exact s2) | exact s2)
      have V2 : ∃ M, E2 = M ∧ RowV P w .int B2 n2 M := ⟨_, rfl, V2⟩
      obtain ⟨M2, eM2, V2⟩ := V2
      obtain ⟨e3, -⟩ := r2
      have hE : E = [(g, x5.toNat * 4, false)] ++ (M1 ++ (M2 ++ ([(g, x5.toNat * 4 + 3, false)]))) := by
        rw [eE0, eE1, eE2]; skip; (try rw [e0]); (try rw [eM1]); (try rw [eM2]); (try rw [e3]); (try first | rfl | simp [Ty.sz])
      have hEl : E.length = 1 + M1.length + M2.length + 1 := by rw [hE]; (try simp only [List.length_append, List.length_cons, List.length_nil, Nat.zero_add]); (try omega)
      have p5 : (0 ≤ x5) = True := eq_true j0
      have q5 : (x5 < (n : Int)) = True := eq_true c3
      rw [hEl] at cl
      rw [hE] at HE_
      have e5 : wrap64 (x5 + 1) = x5 + 1 := wrap_in (by omega) (by omega)
      have HE5 := Aside0.mk e5
      have HCL := Aside0.mk cl
      have HC0 : Aside0 (x1 = k + ((cat Ls x5.toNat).length : Int)) := ⟨jx⟩
      have hx0 : w.cell? ⟨g, x5.toNat * 4, none⟩ = some (.int .i64 (x1)) := by rw [HeldAt.one (HE_.out.left), ← HC0.out]; rfl
      have HC1 : Aside0 (wrap64 (x1 + 1) = k + ((cat Ls x5.toNat).length : Int) + (([(g, x5.toNat * 4, false)] : List Cel).length : Int)) := ⟨by have h1_ := HC0.out; have h2_ := HCL.out; (try simp only [List.length_singleton] at h1_); simp only [List.length_singleton]; rw [wrap_in (n := x1 + 1)] <;> ((try push_cast at h1_); (try push_cast); omega)⟩
      have hs1 := s1.cell
      have HH1 : Aside0 (HeldAt w M1 (wrap64 (x1 + 1)) ∧ 0 ≤ wrap64 (x1 + 1) ∧ wrap64 (x1 + 1) + (M1.length : Int) ≤ 4611686018427387904) := ⟨by have h1_ := HC1.out; have h2_ := HCL.out; refine ⟨by rw [h1_]; exact HE_.out.right.left, ?_, ?_⟩ <;> ((try simp only [List.length_singleton] at h1_); (try push_cast at h1_); (try simp only [List.length_append, List.length_cons, List.length_nil, Nat.zero_add] at h1_); (try simp only [List.length_append, List.length_cons, List.length_nil, Nat.zero_add] at h2_); omega)⟩
      have hl1 : decide (wrap64 (x1 + 1) + (M1.length : Int) < 0) = false := decide_eq_false (by have h1_ := HH1.out.2.1; omega)
      have HC2 : Aside0 (wrap64 (x1 + 1) + (M1.length : Int) = k + ((cat Ls x5.toNat).length : Int) + (([(g, x5.toNat * 4, false)] : List Cel).length : Int) + (M1.length : Int)) := ⟨by have h1_ := HC1.out; omega⟩
      have hs2 := s2.cell
      have HH2 : Aside0 (HeldAt w M2 (wrap64 (x1 + 1) + (M1.length : Int)) ∧ 0 ≤ wrap64 (x1 + 1) + (M1.length : Int) ∧ wrap64 (x1 + 1) + (M1.length : Int) + (M2.length : Int) ≤ 4611686018427387904) := ⟨by have h1_ := HC2.out; have h2_ := HCL.out; refine ⟨by rw [h1_]; exact HE_.out.right.right.left, ?_, ?_⟩ <;> ((try simp only [List.length_singleton] at h1_); (try push_cast at h1_); (try simp only [List.length_append, List.length_cons, List.length_nil, Nat.zero_add] at h1_); (try simp only [List.length_append, List.length_cons, List.length_nil, Nat.zero_add] at h2_); omega)⟩
      have hl2 : decide (wrap64 (x1 + 1) + (M1.length : Int) + (M2.length : Int) < 0) = false := decide_eq_false (by have h1_ := HH2.out.2.1; omega)
      have HC3 : Aside0 (wrap64 (x1 + 1) + (M1.length : Int) + (M2.length : Int) = k + ((cat Ls x5.toNat).length : Int) + (([(g, x5.toNat * 4, false)] : List Cel).length : Int) + (M1.length : Int) + (M2.length : Int)) := ⟨by have h1_ := HC2.out; omega⟩
      have hx3 : w.cell? ⟨g, x5.toNat * 4 + 3, none⟩ = some (.int .i64 (wrap64 (x1 + 1) + (M1.length : Int) + (M2.length : Int))) := by rw [HeldAt.one (HE_.out.right.right.right), ← HC3.out]; rfl
      have HC4 : Aside0 (wrap64 (wrap64 (x1 + 1) + (M1.length : Int) + (M2.length : Int) + 1) = k + ((cat Ls x5.toNat).length : Int) + (([(g, x5.toNat * 4, false)] : List Cel).length : Int) + (M1.length : Int) + (M2.length : Int) + (([(g, x5.toNat * 4 + 3, false)] : List Cel).length : Int)) := ⟨by have h1_ := HC3.out; have h2_ := HCL.out; (try simp only [List.length_singleton] at h1_); simp only [List.length_singleton]; rw [wrap_in (n := wrap64 (x1 + 1) + (M1.length : Int) + (M2.length : Int) + 1)] <;> ((try push_cast at h1_); (try push_cast); omega)⟩
      clear HJ jx cl hEl e5 HE_
      go_wp2_with (first | ((with_reducible refine gate_callee (f := 41) rfl ?_); refine goesL_ (some 27) rfl rfl Try.func41 (by kernel_rfl) rfl #[.slice B1 n1 c1, .int .i64 (wrap64 (x1 + 1))] rfl (by (try simp only [List.map_toArray, List.map_cons, List.map_nil]); first | done | rfl | (simp; done)) ?_; refine (hd_heldIntS P _ B1 n1 c1 (wrap64 (x1 + 1)) M1 (by repeat (first | exact V1 | apply RowV.drewN)) (by repeat (first | exact HH1.out.1 | apply HeldAt.drewN)) HH1.out.2.1 HH1.out.2.2).mono ?_; rintro e w3 ⟨rfl, ⟨nd1, rfl⟩⟩; refine ⟨_, rfl, ?_⟩) | ((with_reducible refine gate_callee (f := 41) rfl ?_); refine goesL_ (some 36) rfl rfl Try.func41 (by kernel_rfl) rfl #[.slice B2 n2 c2, .int .i64 (wrap64 (x1 + 1) + (M1.length : Int))] rfl (by (try simp only [List.map_toArray, List.map_cons, List.map_nil]); first | done | rfl | (simp; done)) ?_; refine (hd_heldIntS P _ B2 n2 c2 (wrap64 (x1 + 1) + (M1.length : Int)) M2 (by repeat (first | exact V2 | apply RowV.drewN)) (by repeat (first | exact HH2.out.1 | apply HeldAt.drewN)) HH2.out.2.1 HH2.out.2.2).mono ?_; rintro e w4 ⟨rfl, ⟨nd2, rfl⟩⟩; refine ⟨_, rfl, ?_⟩))
      go_roundg (n - x5.toNat - 1)
      case measure => omega
      case rel => exact ⟨_, _, rfl, rfl, ⟨by have h1_ := HC4.out; have h5_ := HE5.out; refine ⟨by omega, by omega, ?_⟩; rw [h1_]; (try rw [h5_]); rw [show (x5 + 1).toNat = x5.toNat + 1 by omega, cs_, hE]; (try simp only [List.length_singleton]); (try simp only [List.length_append, List.length_cons, List.length_nil, Nat.zero_add]); push_cast; omega⟩, by repeat (first | exact Drawn0.refl _ | apply Drawn0.step)⟩
    · have c3b0 : decide (x5 < (n : Int)) = false := decide_eq_false c3
      have hx1 : x5.toNat = n := by omega
      rw [hx1] at jx
      subst jx
      go_wp2
      go_ret
      exact ⟨rfl, by repeat (first | exact Drawn0.refl _ | apply Drawn0.step)⟩
set_option maxHeartbeats 8000000 in
set_option maxRecDepth 100000 in
theorem wr_markStepSS (P : Nat → Prop) (w : World) (A : Option Addr) (n c : Nat) (k : Int) (L : List Cel) (h : RowV P w (.sl (.pair .int (.pair .int (.pair .int (.pair .int .int))))) A n L) (h0 : 0 ≤ k) (hk : k + (L.length : Int) ≤ 4611686018427387904) :
    Calls Try.prog 30 #[.slice A n c, .int .i64 k] w fun e w' => e = .returned (.int .i64 (k + (L.length : Int))) ∧ Mk P w w' ∧ Wr w L k w' := by
  obtain ⟨hn, Ls, rfl, h⟩ := h
  go_enter Try.func30, Try.ntmps30
  go_wp2
  go_loopg [1, 5] n (fun kq v1 v5 w' => ∃ (x1 x5 : Int), v1 = .int .i64 x1 ∧ v5 = .int .i64 x5 ∧ Aside0 (0 ≤ x5 ∧ x5 + (kq : Int) = (n : Int) ∧ x1 = k + ((cat Ls x5.toNat).length : Int)) ∧ Aside0 (Mk P w w') ∧ Aside0 (Wr w (cat Ls x5.toNat) k w'))
  case atStart => exact ⟨k, 0, rfl, rfl, ⟨by simp [cat]⟩, ⟨Mk.refl P w⟩, ⟨Wr.refl w k⟩⟩
  case round =>
    obtain ⟨x1, x5, rfl, rfl, HJ, HM0, HW0⟩ := hrel
    obtain ⟨j0, j1, jx⟩ := HJ.out
    by_cases c3 : x5 < (n : Int)
    · have c3b0 : decide (x5 < (n : Int)) = true := decide_eq_true c3
      obtain ⟨g, rfl, hp, hi⟩ := h (by omega)
      have cl := cat_le Ls (j := x5.toNat) (n := n) (by omega)
      have cs_ := cat_succ Ls x5.toNat
      have hv := hi x5.toNat (by omega)
      generalize hLs : Ls x5.toNat = E at cl cs_ hv
      obtain ⟨B0, n0, c0, s0, V0⟩ := hv
      have s0 : SlAt w g (x5.toNat) B0 n0 c0 := (by first | simpa using s0 | (simp [Ty.sz] at s0; exact s0) | exact s0)
      have V0 : ∃ M, E = M ∧ RowV P w (.pair .int (.pair .int (.pair .int (.pair .int .int)))) B0 n0 M := ⟨_, rfl, V0⟩
      obtain ⟨M0, eM0, V0⟩ := V0
      have hE : E = M0 := by
        skip; (try rw [eM0]); (try first | rfl | simp [Ty.sz])
      have hEl : E.length = M0.length := by rw [hE]; (try simp only [List.length_append, List.length_cons, List.length_nil, Nat.zero_add])
      have p5 : (0 ≤ x5) = True := eq_true j0
      have q5 : (x5 < (n : Int)) = True := eq_true c3
      rw [hEl] at cl
      have e5 : wrap64 (x5 + 1) = x5 + 1 := wrap_in (by omega) (by omega)
      have HE5 := Aside0.mk e5
      have HC0 : Aside0 (x1 = k + ((cat Ls x5.toNat).length : Int)) := ⟨jx⟩
      have HCL := Aside0.mk cl
      have hs0 := (s0.mk HM0.out).cell
      have hV0 := Aside0.mk (V0.mk HM0.out)
      have HH0 : Aside0 (0 ≤ x1 ∧ x1 + (M0.length : Int) ≤ 4611686018427387904) := ⟨by have h1_ := HC0.out; have h2_ := HCL.out; (try simp only [List.length_append, List.length_cons, List.length_nil, Nat.zero_add] at h1_); (try simp only [List.length_append, List.length_cons, List.length_nil, Nat.zero_add] at h2_); omega⟩
      clear HJ jx cl hEl e5
      go_wp2_with (first | ((with_reducible refine gate_callee (f := 85) rfl ?_); refine goesL_ (some 17) rfl rfl Try.func85 (by kernel_rfl) rfl #[.slice B0 n0 c0, .int .i64 (x1)] rfl (by (try simp only [List.map_toArray, List.map_cons, List.map_nil]); first | done | rfl | (simp; done)) ?_; refine (wr_markStepS P _ B0 n0 c0 (x1) M0 hV0.out HH0.out.1 HH0.out.2).mono ?_; rintro e w2 ⟨rfl, hm, hw⟩; refine ⟨_, rfl, ?_⟩; have HM1 := Aside0.mk (HM0.out.trans hm); have HW1 := Aside0.mk (HW0.out.trans hw HC0.out); clear hm hw; have HC1 : Aside0 (x1 + (M0.length : Int) = k + ((cat Ls x5.toNat ++ M0).length : Int)) := ⟨by have h1_ := HC0.out; rw [List.length_append]; push_cast; omega⟩))
      go_roundg (n - x5.toNat - 1)
      case measure => omega
      case rel => exact ⟨_, _, rfl, rfl, ⟨by have h1_ := HC1.out; have h5_ := HE5.out; refine ⟨by omega, by omega, ?_⟩; rw [h1_]; (try rw [h5_]); rw [show (x5 + 1).toNat = x5.toNat + 1 by omega, cs_, hE]; (try simp only [List.append_assoc])⟩, HM1, ⟨HW1.out.cast (by (try rw [HE5.out]); rw [show (x5 + 1).toNat = x5.toNat + 1 by omega, cs_, hE]; (try simp only [List.append_assoc]))⟩⟩
    · have c3b0 : decide (x5 < (n : Int)) = false := decide_eq_false c3
      have hx1 : x5.toNat = n := by omega
      rw [hx1] at jx HW0
      subst jx
      go_wp2
      go_ret
      exact ⟨rfl, HM0.out, HW0.out⟩
set_option maxHeartbeats 8000000 in
set_option maxRecDepth 100000 in
theorem hd_heldStepSS (P : Nat → Prop) (w : World) (A : Option Addr) (n c : Nat) (k : Int) (L : List Cel) (h : RowV P w (.sl (.pair .int (.pair .int (.pair .int (.pair .int .int))))) A n L) (hv : HeldAt w L k) (h0 : 0 ≤ k) (hk : k + (L.length : Int) ≤ 4611686018427387904) :
    Calls Try.prog 88 #[.slice A n c, .int .i64 k] w fun e w' => e = .returned (.int .i64 (k + (L.length : Int))) ∧ Drawn0 w w' := by
  obtain ⟨hn, Ls, rfl, h⟩ := h
  have HV := Aside0.mk hv
  clear hv
  go_enter Try.func88, Try.ntmps88
  go_wp2
  go_loopg [1, 5] n (fun kq v1 v5 w' => ∃ (x1 x5 : Int), v1 = .int .i64 x1 ∧ v5 = .int .i64 x5 ∧ Aside0 (0 ≤ x5 ∧ x5 + (kq : Int) = (n : Int) ∧ x1 = k + ((cat Ls x5.toNat).length : Int)) ∧ Drawn0 w w')
  case atStart => exact ⟨k, 0, rfl, rfl, ⟨by simp [cat]⟩, by repeat (first | exact Drawn0.refl _ | apply Drawn0.step)⟩
  case round =>
    obtain ⟨x1, x5, rfl, rfl, HJ, ⟨m1, rfl⟩⟩ := hrel
    obtain ⟨j0, j1, jx⟩ := HJ.out
    by_cases c3 : x5 < (n : Int)
    · have c3b0 : decide (x5 < (n : Int)) = true := decide_eq_true c3
      obtain ⟨g, rfl, hp, hi⟩ := h (by omega)
      have cl := cat_le Ls (j := x5.toNat) (n := n) (by omega)
      have cs_ := cat_succ Ls x5.toNat
      have hv := hi x5.toNat (by omega)
      have HE_ := Aside0.mk (HV.out.cat (j := x5.toNat) (by omega))
      generalize hLs : Ls x5.toNat = E at cl cs_ hv HE_
      obtain ⟨B0, n0, c0, s0, V0⟩ := hv
      have s0 : SlAt w g (x5.toNat) B0 n0 c0 := (by first | simpa using s0 | (simp [Ty.sz] at s0; exact s0) | exact s0)
      have V0 : ∃ M, E = M ∧ RowV P w (.pair .int (.pair .int (.pair .int (.pair .int .int)))) B0 n0 M := ⟨_, rfl, V0⟩
      obtain ⟨M0, eM0, V0⟩ := V0
      have hE : E = M0 := by
        skip; (try rw [eM0]); (try first | rfl | simp [Ty.sz])
      have hEl : E.length = M0.length := by rw [hE]; (try simp only [List.length_append, List.length_cons, List.length_nil, Nat.zero_add]); (try omega)
      have p5 : (0 ≤ x5) = True := eq_true j0
      have q5 : (x5 < (n : Int)) = True := eq_true c3
      rw [hEl] at cl
      rw [hE] at HE_
      have e5 : wrap64 (x5 + 1) = x5 + 1 := wrap_in (by omega) (by omega)
      have HE5 := Aside0.mk e5
      have HCL := Aside0.mk cl
      have HC0 : Aside0 (x1 = k + ((cat Ls x5.toNat).length : Int)) := ⟨jx⟩
      have hs0 := s0.cell
      have HH0 : Aside0 (HeldAt w M0 (x1) ∧ 0 ≤ x1 ∧ x1 + (M0.length : Int) ≤ 4611686018427387904) := ⟨by have h1_ := HC0.out; have h2_ := HCL.out; refine ⟨by rw [h1_]; exact HE_.out, ?_, ?_⟩ <;> ((try simp only [List.length_singleton] at h1_); (try push_cast at h1_); (try simp only [List.length_append, List.length_cons, List.length_nil, Nat.zero_add] at h1_); (try simp only [List.length_append, List.length_cons, List.length_nil, Nat.zero_add] at h2_); omega)⟩
      have hl0 : decide (x1 + (M0.length : Int) < 0) = false := decide_eq_false (by have h1_ := HH0.out.2.1; omega)
      have HC1 : Aside0 (x1 + (M0.length : Int) = k + ((cat Ls x5.toNat).length : Int) + (M0.length : Int)) := ⟨by have h1_ := HC0.out; omega⟩
      clear HJ jx cl hEl e5 HE_
      go_wp2_with (first | ((with_reducible refine gate_callee (f := 142) rfl ?_); refine goesL_ (some 17) rfl rfl Try.func142 (by kernel_rfl) rfl #[.slice B0 n0 c0, .int .i64 (x1)] rfl (by (try simp only [List.map_toArray, List.map_cons, List.map_nil]); first | done | rfl | (simp; done)) ?_; refine (hd_heldStepS P _ B0 n0 c0 (x1) M0 (by repeat (first | exact V0 | apply RowV.drewN)) (by repeat (first | exact HH0.out.1 | apply HeldAt.drewN)) HH0.out.2.1 HH0.out.2.2).mono ?_; rintro e w2 ⟨rfl, ⟨nd0, rfl⟩⟩; refine ⟨_, rfl, ?_⟩))
      go_roundg (n - x5.toNat - 1)
      case measure => omega
      case rel => exact ⟨_, _, rfl, rfl, ⟨by have h1_ := HC1.out; have h5_ := HE5.out; refine ⟨by omega, by omega, ?_⟩; rw [h1_]; (try rw [h5_]); rw [show (x5 + 1).toNat = x5.toNat + 1 by omega, cs_, hE]; (try simp only [List.length_singleton]); (try simp only [List.length_append, List.length_cons, List.length_nil, Nat.zero_add]); push_cast; omega⟩, by repeat (first | exact Drawn0.refl _ | apply Drawn0.step)⟩
    · have c3b0 : decide (x5 < (n : Int)) = false := decide_eq_false c3
      have hx1 : x5.toNat = n := by omega
      rw [hx1] at jx
      subst jx
      go_wp2
      go_ret
      exact ⟨rfl, by repeat (first | exact Drawn0.refl _ | apply Drawn0.step)⟩
set_option maxHeartbeats 8000000 in
set_option maxRecDepth 100000 in
theorem wr_markWriteSS (P : Nat → Prop) (w : World) (A : Option Addr) (n c : Nat) (k : Int) (L : List Cel) (h : RowV P w (.sl (.pair .int (.sl .int))) A n L) (h0 : 0 ≤ k) (hk : k + (L.length : Int) ≤ 4611686018427387904) :
    Calls Try.prog 141 #[.slice A n c, .int .i64 k] w fun e w' => e = .returned (.int .i64 (k + (L.length : Int))) ∧ Mk P w w' ∧ Wr w L k w' := by
  obtain ⟨hn, Ls, rfl, h⟩ := h
  go_enter Try.func141, Try.ntmps141
  go_wp2
  go_loopg [1, 5] n (fun kq v1 v5 w' => ∃ (x1 x5 : Int), v1 = .int .i64 x1 ∧ v5 = .int .i64 x5 ∧ Aside0 (0 ≤ x5 ∧ x5 + (kq : Int) = (n : Int) ∧ x1 = k + ((cat Ls x5.toNat).length : Int)) ∧ Aside0 (Mk P w w') ∧ Aside0 (Wr w (cat Ls x5.toNat) k w'))
  case atStart => exact ⟨k, 0, rfl, rfl, ⟨by simp [cat]⟩, ⟨Mk.refl P w⟩, ⟨Wr.refl w k⟩⟩
  case round =>
    obtain ⟨x1, x5, rfl, rfl, HJ, HM0, HW0⟩ := hrel
    obtain ⟨j0, j1, jx⟩ := HJ.out
    by_cases c3 : x5 < (n : Int)
    · have c3b0 : decide (x5 < (n : Int)) = true := decide_eq_true c3
      obtain ⟨g, rfl, hp, hi⟩ := h (by omega)
      have cl := cat_le Ls (j := x5.toNat) (n := n) (by omega)
      have cs_ := cat_succ Ls x5.toNat
      have hv := hi x5.toNat (by omega)
      generalize hLs : Ls x5.toNat = E at cl cs_ hv
      obtain ⟨B0, n0, c0, s0, V0⟩ := hv
      have s0 : SlAt w g (x5.toNat) B0 n0 c0 := (by first | simpa using s0 | (simp [Ty.sz] at s0; exact s0) | exact s0)
      have V0 : ∃ M, E = M ∧ RowV P w (.pair .int (.sl .int)) B0 n0 M := ⟨_, rfl, V0⟩
      obtain ⟨M0, eM0, V0⟩ := V0
      have hE : E = M0 := by
        skip; (try rw [eM0]); (try first | rfl | simp [Ty.sz])
      have hEl : E.length = M0.length := by rw [hE]; (try simp only [List.length_append, List.length_cons, List.length_nil, Nat.zero_add])
      have p5 : (0 ≤ x5) = True := eq_true j0
      have q5 : (x5 < (n : Int)) = True := eq_true c3
      rw [hEl] at cl
      have e5 : wrap64 (x5 + 1) = x5 + 1 := wrap_in (by omega) (by omega)
      have HE5 := Aside0.mk e5
      have HC0 : Aside0 (x1 = k + ((cat Ls x5.toNat).length : Int)) := ⟨jx⟩
      have HCL := Aside0.mk cl
      have hs0 := (s0.mk HM0.out).cell
      have hV0 := Aside0.mk (V0.mk HM0.out)
      have HH0 : Aside0 (0 ≤ x1 ∧ x1 + (M0.length : Int) ≤ 4611686018427387904) := ⟨by have h1_ := HC0.out; have h2_ := HCL.out; (try simp only [List.length_append, List.length_cons, List.length_nil, Nat.zero_add] at h1_); (try simp only [List.length_append, List.length_cons, List.length_nil, Nat.zero_add] at h2_); omega⟩
      clear HJ jx cl hEl e5
      go_wp2_with (first | ((with_reducible refine gate_callee (f := 169) rfl ?_); refine goesL_ (some 17) rfl rfl Try.func169 (by kernel_rfl) rfl #[.slice B0 n0 c0, .int .i64 (x1)] rfl (by (try simp only [List.map_toArray, List.map_cons, List.map_nil]); first | done | rfl | (simp; done)) ?_; refine (wr_markWriteS P _ B0 n0 c0 (x1) M0 hV0.out HH0.out.1 HH0.out.2).mono ?_; rintro e w2 ⟨rfl, hm, hw⟩; refine ⟨_, rfl, ?_⟩; have HM1 := Aside0.mk (HM0.out.trans hm); have HW1 := Aside0.mk (HW0.out.trans hw HC0.out); clear hm hw; have HC1 : Aside0 (x1 + (M0.length : Int) = k + ((cat Ls x5.toNat ++ M0).length : Int)) := ⟨by have h1_ := HC0.out; rw [List.length_append]; push_cast; omega⟩))
      go_roundg (n - x5.toNat - 1)
      case measure => omega
      case rel => exact ⟨_, _, rfl, rfl, ⟨by have h1_ := HC1.out; have h5_ := HE5.out; refine ⟨by omega, by omega, ?_⟩; rw [h1_]; (try rw [h5_]); rw [show (x5 + 1).toNat = x5.toNat + 1 by omega, cs_, hE]; (try simp only [List.append_assoc])⟩, HM1, ⟨HW1.out.cast (by (try rw [HE5.out]); rw [show (x5 + 1).toNat = x5.toNat + 1 by omega, cs_, hE]; (try simp only [List.append_assoc]))⟩⟩
    · have c3b0 : decide (x5 < (n : Int)) = false := decide_eq_false c3
      have hx1 : x5.toNat = n := by omega
      rw [hx1] at jx HW0
      subst jx
      go_wp2
      go_ret
      exact ⟨rfl, HM0.out, HW0.out⟩
set_option maxHeartbeats 8000000 in
set_option maxRecDepth 100000 in
theorem hd_heldWriteSS (P : Nat → Prop) (w : World) (A : Option Addr) (n c : Nat) (k : Int) (L : List Cel) (h : RowV P w (.sl (.pair .int (.sl .int))) A n L) (hv : HeldAt w L k) (h0 : 0 ≤ k) (hk : k + (L.length : Int) ≤ 4611686018427387904) :
    Calls Try.prog 143 #[.slice A n c, .int .i64 k] w fun e w' => e = .returned (.int .i64 (k + (L.length : Int))) ∧ Drawn0 w w' := by
  obtain ⟨hn, Ls, rfl, h⟩ := h
  have HV := Aside0.mk hv
  clear hv
  go_enter Try.func143, Try.ntmps143
  go_wp2
  go_loopg [1, 5] n (fun kq v1 v5 w' => ∃ (x1 x5 : Int), v1 = .int .i64 x1 ∧ v5 = .int .i64 x5 ∧ Aside0 (0 ≤ x5 ∧ x5 + (kq : Int) = (n : Int) ∧ x1 = k + ((cat Ls x5.toNat).length : Int)) ∧ Drawn0 w w')
  case atStart => exact ⟨k, 0, rfl, rfl, ⟨by simp [cat]⟩, by repeat (first | exact Drawn0.refl _ | apply Drawn0.step)⟩
  case round =>
    obtain ⟨x1, x5, rfl, rfl, HJ, ⟨m1, rfl⟩⟩ := hrel
    obtain ⟨j0, j1, jx⟩ := HJ.out
    by_cases c3 : x5 < (n : Int)
    · have c3b0 : decide (x5 < (n : Int)) = true := decide_eq_true c3
      obtain ⟨g, rfl, hp, hi⟩ := h (by omega)
      have cl := cat_le Ls (j := x5.toNat) (n := n) (by omega)
      have cs_ := cat_succ Ls x5.toNat
      have hv := hi x5.toNat (by omega)
      have HE_ := Aside0.mk (HV.out.cat (j := x5.toNat) (by omega))
      generalize hLs : Ls x5.toNat = E at cl cs_ hv HE_
      obtain ⟨B0, n0, c0, s0, V0⟩ := hv
      have s0 : SlAt w g (x5.toNat) B0 n0 c0 := (by first | simpa using s0 | (simp [Ty.sz] at s0; exact s0) | exact s0)
      have V0 : ∃ M, E = M ∧ RowV P w (.pair .int (.sl .int)) B0 n0 M := ⟨_, rfl, V0⟩
      obtain ⟨M0, eM0, V0⟩ := V0
      have hE : E = M0 := by
        skip; (try rw [eM0]); (try first | rfl | simp [Ty.sz])
      have hEl : E.length = M0.length := by rw [hE]; (try simp only [List.length_append, List.length_cons, List.length_nil, Nat.zero_add]); (try omega)
      have p5 : (0 ≤ x5) = True := eq_true j0
      have q5 : (x5 < (n : Int)) = True := eq_true c3
      rw [hEl] at cl
      rw [hE] at HE_
      have e5 : wrap64 (x5 + 1) = x5 + 1 := wrap_in (by omega) (by omega)
      have HE5 := Aside0.mk e5
      have HCL := Aside0.mk cl
      have HC0 : Aside0 (x1 = k + ((cat Ls x5.toNat).length : Int)) := ⟨jx⟩
      have hs0 := s0.cell
      have HH0 : Aside0 (HeldAt w M0 (x1) ∧ 0 ≤ x1 ∧ x1 + (M0.length : Int) ≤ 4611686018427387904) := ⟨by have h1_ := HC0.out; have h2_ := HCL.out; refine ⟨by rw [h1_]; exact HE_.out, ?_, ?_⟩ <;> ((try simp only [List.length_singleton] at h1_); (try push_cast at h1_); (try simp only [List.length_append, List.length_cons, List.length_nil, Nat.zero_add] at h1_); (try simp only [List.length_append, List.length_cons, List.length_nil, Nat.zero_add] at h2_); omega)⟩
      have hl0 : decide (x1 + (M0.length : Int) < 0) = false := decide_eq_false (by have h1_ := HH0.out.2.1; omega)
      have HC1 : Aside0 (x1 + (M0.length : Int) = k + ((cat Ls x5.toNat).length : Int) + (M0.length : Int)) := ⟨by have h1_ := HC0.out; omega⟩
      clear HJ jx cl hEl e5 HE_
      go_wp2_with (first | ((with_reducible refine gate_callee (f := 170) rfl ?_); refine goesL_ (some 17) rfl rfl Try.func170 (by kernel_rfl) rfl #[.slice B0 n0 c0, .int .i64 (x1)] rfl (by (try simp only [List.map_toArray, List.map_cons, List.map_nil]); first | done | rfl | (simp; done)) ?_; refine (hd_heldWriteS P _ B0 n0 c0 (x1) M0 (by repeat (first | exact V0 | apply RowV.drewN)) (by repeat (first | exact HH0.out.1 | apply HeldAt.drewN)) HH0.out.2.1 HH0.out.2.2).mono ?_; rintro e w2 ⟨rfl, ⟨nd0, rfl⟩⟩; refine ⟨_, rfl, ?_⟩))
      go_roundg (n - x5.toNat - 1)
      case measure => omega
      case rel => exact ⟨_, _, rfl, rfl, ⟨by have h1_ := HC1.out; have h5_ := HE5.out; refine ⟨by omega, by omega, ?_⟩; rw [h1_]; (try rw [h5_]); rw [show (x5 + 1).toNat = x5.toNat + 1 by omega, cs_, hE]; (try simp only [List.length_singleton]); (try simp only [List.length_append, List.length_cons, List.length_nil, Nat.zero_add]); push_cast; omega⟩, by repeat (first | exact Drawn0.refl _ | apply Drawn0.step)⟩
    · have c3b0 : decide (x5 < (n : Int)) = false := decide_eq_false c3
      have hx1 : x5.toNat = n := by omega
      rw [hx1] at jx
      subst jx
      go_wp2
      go_ret
      exact ⟨rfl, by repeat (first | exact Drawn0.refl _ | apply Drawn0.step)⟩
end Go.Proofs.Ytobachfngmpeiaa.Marks
namespace Go.Proofs.Ytobachfngmpeiaa.Marks
open Go.RowKit Go.Proofs.YtobachfngmpeiaaW.PrintWords Go.Proofs.YtobachfngmpeiaaW.PrintLast Go.Proofs.YtobachfngmpeiaaW.PrintMore
set_option linter.unusedVariables false
set_option linter.unusedSimpArgs false
def addr2 (c : Cel) : Nat × Nat := (c.1, c.2.1)
def CellAt (w : World) (g o : Nat) : Prop := ∃ (cs : Array Value) (t : TypeId), w.heap[g]? = some (.cells cs t (0, 0)) ∧ o < cs.size
section
variable {P Q : Nat → Prop} {w w' w0 w1 w2 W W' : World} {g o n : Nat} {k k2 : Int} {L M : List Cel} {A : Option Addr} {t : Ty}
theorem CellAt.set (h : CellAt w g o) (b p : Nat) (v : Value) : CellAt (w.setCell ⟨b, p, none⟩ v) g o := by
  obtain ⟨cs, t, h1, h2⟩ := h
  by_cases e : g = b
  · subst e
    exact ⟨_, t, blk_set h1 p v, by simpa using h2⟩
  · exact ⟨cs, t, blk_far h1 (p := ⟨b, p, none⟩) e v, h2⟩
theorem IntAt.at_ (h : IntAt w g o) : CellAt w g o := by
  obtain ⟨cs, t, n, h1, h2⟩ := h
  exact ⟨cs, t, h1, (Array.getElem?_eq_some_iff.1 h2).1⟩
theorem BoolAt.at_ (h : BoolAt w g o) : CellAt w g o := by
  obtain ⟨cs, t, n, h1, h2⟩ := h
  exact ⟨cs, t, h1, (Array.getElem?_eq_some_iff.1 h2).1⟩
theorem CellAt.self (h : CellAt w g o) (v : Value) : (w.setCell ⟨g, o, none⟩ v).cell? ⟨g, o, none⟩ = some v := by
  obtain ⟨cs, t, h1, h2⟩ := h
  rw [blk_cell (blk_set h1 o v) o, Array.getElem?_setIfInBounds_self]
  simp [h2]
theorem writes_other : ∀ (L : List Cel) (w : World) (k : Int) (g o : Nat), (g, o) ∉ L.map addr2 → (writes w L k).cell? ⟨g, o, none⟩ = w.cell? ⟨g, o, none⟩
  | [], w, k, g, o, _ => rfl
  | c :: L, w, k, g, o, h => by
    rw [List.map_cons, List.mem_cons, not_or] at h
    rw [writes, writes_other L _ _ _ _ h.2]
    exact World.cell?_setCell_other (w := w) (a := ⟨c.1, c.2.1, none⟩) (b := ⟨g, o, none⟩) (v := cellv c.2.2 k) (h := fun e => h.1 (by injection e with e1 e2; rw [addr2, e1, e2]))
theorem held_writes : ∀ (L : List Cel) (w : World) (k : Int), (∀ c ∈ L, CellAt w c.1 c.2.1) → (L.map addr2).Nodup → HeldAt (writes w L k) L k
  | [], w, k, _, _ => fun j c hj => by simp at hj
  | c :: L, w, k, hc, hn => by
    rw [List.map_cons, List.nodup_cons] at hn
    intro j d hj
    cases j with
    | zero =>
      have e : d = c := by simpa using hj.symm
      subst e
      rw [writes, writes_other L _ _ d.1 d.2.1 (by exact hn.1), (hc d List.mem_cons_self).self]
      simp
    | succ j =>
      have h2 := held_writes L (w.setCell ⟨c.1, c.2.1, none⟩ (cellv c.2.2 k)) (k + 1) (fun d hd => (hc d (List.mem_cons_of_mem _ hd)).set _ _ _) hn.2 j d (by simpa using hj)
      rw [writes, h2]
      congr 2
      push_cast
      omega
theorem HeldAt.of_heap (h : HeldAt w L k) (hh : ∀ c ∈ L, w'.heap[c.1]? = w.heap[c.1]?) : HeldAt w' L k := fun j c hj => by
  have := hh c (List.mem_of_getElem? hj)
  rw [← h j c hj]
  simp [World.cell?, this]
theorem set_heap (w w' : World) (a : Addr) (v : Value) (g : Nat) (h : w.heap[g]? = w'.heap[g]?) : (w.setCell a v).heap[g]? = (w'.setCell a v).heap[g]? := by
  simp only [World.setCell, Array.getElem?_modify, h]
theorem writes_local : ∀ (L : List Cel) (w w' : World) (k : Int) (g : Nat), w.heap[g]? = w'.heap[g]? → (writes w L k).heap[g]? = (writes w' L k).heap[g]?
  | [], w, w', k, g, h => h
  | c :: L, w, w', k, g, h => by
    rw [writes, writes]
    exact writes_local L _ _ _ g (set_heap _ _ _ _ _ h)
def WrB (w : World) (L : List Cel) (k : Int) (w' : World) : Prop := ∀ g, g < w.heap.size → w'.heap[g]? = (writes w L k).heap[g]?
theorem Wr.B (h : Wr w L k w') : WrB w L k w' := by
  obtain ⟨n, rfl⟩ := h
  exact fun g _ => rfl
theorem WrB.nil (hb : Below w.heap.size w w') : WrB w [] k w' := fun g hg => hb.block g hg
theorem WrB.trans (h : WrB w L k w1) (hs : w.heap.size ≤ w1.heap.size) (h2 : WrB w1 M k2 w2) (e : k2 = k + L.length) : WrB w (L ++ M) k w2 := fun g hg => by
  rw [h2 g (Nat.lt_of_lt_of_le hg hs), writes_append, e]
  exact writes_local M _ _ _ g (h g hg)
theorem WrB.held (h : WrB w L k w') (hc : ∀ c ∈ L, CellAt w c.1 c.2.1) (hn : (L.map addr2).Nodup) : HeldAt w' L k :=
  (held_writes L w k hc hn).of_heap (fun c hm => by
    obtain ⟨cs, t, h1, _⟩ := hc c hm
    exact h c.1 (blk_lt h1))
theorem Vis.cells : ∀ {t : Ty} {g o : Nat} {L : List Cel}, Vis P w t g o L → ∀ c ∈ L, CellAt w c.1 c.2.1 ∧ (c.1 = g ∨ P c.1)
  | .int, g, o, L, h, c, hm => by
    obtain ⟨rfl, h2⟩ := h
    obtain rfl := List.mem_singleton.1 hm
    exact ⟨h2.at_, .inl rfl⟩
  | .bool, g, o, L, h, c, hm => by
    obtain ⟨rfl, h2⟩ := h
    obtain rfl := List.mem_singleton.1 hm
    exact ⟨h2.at_, .inl rfl⟩
  | .pair a b, g, o, L, ⟨L1, L2, e, h1, h2⟩, c, hm => by
    subst e
    rcases List.mem_append.1 hm with hm | hm
    · exact Vis.cells h1 c hm
    · exact Vis.cells h2 c hm
  | .sl a, g, o, L, ⟨A, n, cp, hs, hb, Ls, e, h⟩, c, hm => by
    subst e
    obtain ⟨i, hi, hm⟩ := List.mem_flatMap.1 hm
    rw [List.mem_range] at hi
    obtain ⟨g', e', hp, hv⟩ := h (by omega)
    obtain ⟨h1, h2⟩ := Vis.cells (hv i hi) c hm
    exact ⟨h1, .inr (h2.elim (fun e => e ▸ hp) id)⟩
theorem RowV.cells (h : RowV P w t A n L) : ∀ c ∈ L, CellAt w c.1 c.2.1 ∧ P c.1 := fun c hm => by
  obtain ⟨hb, Ls, e, h⟩ := h
  subst e
  obtain ⟨i, hi, hm⟩ := List.mem_flatMap.1 hm
  rw [List.mem_range] at hi
  obtain ⟨g', e', hp, hv⟩ := h (by omega)
  obtain ⟨h1, h2⟩ := Vis.cells (hv i hi) c hm
  exact ⟨h1, h2.elim (fun e => e ▸ hp) id⟩
theorem Vis.mono (hp : ∀ k, P k → Q k) : ∀ {t : Ty} {g o : Nat} {L : List Cel}, Vis P w t g o L → Vis Q w t g o L
  | .int, _, _, _, h => h
  | .bool, _, _, _, h => h
  | .pair a b, _, _, _, ⟨L1, L2, e, h1, h2⟩ => ⟨L1, L2, e, Vis.mono hp h1, Vis.mono hp h2⟩
  | .sl a, _, _, _, ⟨A, n, c, hs, hb, Ls, e, h⟩ => ⟨A, n, c, hs, hb, Ls, e, fun hn => by
    obtain ⟨g', e', hp', hi⟩ := h hn
    exact ⟨g', e', hp _ hp', fun i hl => Vis.mono hp (hi i hl)⟩⟩
theorem RowV.mono (hp : ∀ k, P k → Q k) (h : RowV P w t A n L) : RowV Q w t A n L := by
  obtain ⟨hb, Ls, e, h⟩ := h
  exact ⟨hb, Ls, e, fun hn => by
    obtain ⟨g', e', hp', hi⟩ := h hn
    exact ⟨g', e', hp _ hp', fun i hl => Vis.mono hp (hi i hl)⟩⟩
end
structure Rep {α : Type} (d : Kd α) (T : Ty) (wt : α → Nat) : Prop where
  sz : d.sz = T.sz
  vis : ∀ {w : World} {base : Nat} {ok : Nat → Prop} {x : α} {cs : List Value}, d.M w base ok x cs → ∀ (g o : Nat) (cells : Array Value) (t : TypeId), w.heap[g]? = some (.cells cells t (0, 0)) → (∀ i u, cs[i]? = some u → cells[o + i]? = some u) → ∃ L, Vis ok w T g o L ∧ L.length = wt x
theorem Rep.int : Rep (Kd.int .i64) .int (fun _ => 1) := ⟨rfl, fun {w base ok x cs} hM g o cells t hb hc => by
  have e : cs = [.int .i64 x] := hM
  subst e
  exact ⟨_, ⟨rfl, cells, t, x, hb, by simpa using hc 0 _ rfl⟩, rfl⟩⟩
theorem Rep.bool : Rep Kd.bool .bool (fun _ => 1) := ⟨rfl, fun {w base ok x cs} hM g o cells t hb hc => by
  have e : cs = [.bool x] := hM
  subst e
  exact ⟨_, ⟨rfl, cells, t, x, hb, by simpa using hc 0 _ rfl⟩, rfl⟩⟩
theorem Rep.pair {α β : Type} {a : Kd α} {b : Kd β} {S T : Ty} {wa : α → Nat} {wb : β → Nat} (ha : Rep a S wa) (hb : Rep b T wb) : Rep (Kd.pair a b) (.pair S T) (fun x => wa x.1 + wb x.2) :=
  ⟨by show a.sz + b.sz = S.sz + T.sz; rw [ha.sz, hb.sz], fun {w base ok x cs} hM g o cells t hbk hc => by
    obtain ⟨c0, c1, rfl, h0, h1⟩ := hM
    have l0 : c0.length = S.sz := by rw [a.K_len (a.K_of_M h0), ha.sz]
    obtain ⟨L1, v1, e1⟩ := ha.vis h0 g o cells t hbk (fun i u hi => hc i u (by rw [List.getElem?_append_left (List.getElem?_eq_some_iff.1 hi).1]; exact hi))
    obtain ⟨L2, v2, e2⟩ := hb.vis h1 g (o + S.sz) cells t hbk (fun i u hi => by
      have := hc (S.sz + i) u (by rw [List.getElem?_append_right (by omega), l0, Nat.add_sub_cancel_left]; exact hi)
      rwa [← Nat.add_assoc] at this)
    exact ⟨L1 ++ L2, ⟨L1, L2, rfl, v1, v2⟩, by rw [List.length_append, e1, e2]⟩⟩
theorem Rep.iso {α β : Type} {d : Kd α} {T : Ty} {wt : α → Nat} (h : Rep d T wt) (f : β → α) : Rep (Kd.iso d f) T (fun x => wt (f x)) := ⟨h.sz, fun {w base ok x cs} hM => h.vis hM⟩
def wsum {α : Type} (wt : α → Nat) : List α → Nat
  | [] => 0
  | x :: r => wt x + wsum wt r
theorem cat_len {α : Type} (wt : α → Nat) : ∀ (xs : List α) (Ls : Nat → List Cel), (∀ i x, xs[i]? = some x → (Ls i).length = wt x) → (cat Ls xs.length).length = wsum wt xs := by
  intro xs Ls h
  have key : ∀ n, n ≤ xs.length → (cat Ls n).length = wsum wt (xs.take n) := by
    intro n
    induction n with
    | zero => intro _; simp [cat, wsum]
    | succ n ih =>
      intro hn
      have hw : ∀ (a b : List α), wsum wt (a ++ b) = wsum wt a + wsum wt b := by
        intro a b
        induction a with
        | nil => simp [wsum]
        | cons y r ih => rw [List.cons_append, wsum, wsum, ih]; omega
      rw [cat_succ, List.length_append, ih (by omega), List.take_succ_eq_append_getElem (show n < xs.length by omega), hw, h n xs[n] (List.getElem?_eq_getElem (by omega))]
      simp [wsum]
  rw [key xs.length (Nat.le_refl _), List.take_length]
theorem Rep.row {α : Type} {d : Kd α} {T : Ty} {wt : α → Nat} (h : Rep d T wt) {e : Nat} {w : World} {base : Nat} {ok : Nat → Prop} {v : Value} {xs : List α} (hR : d.R e w base ok v xs) :
    ∃ A c L, v = .slice A xs.length c ∧ RowV ok w T A xs.length L ∧ L.length = wsum wt xs := by
  obtain ⟨h0, inner, ho, hr⟩ := hR
  have ho2 := ho.2
  rcases ho2 with ⟨rfl, hn⟩ | ⟨g, cap, cur, rfl, hg, hh, hcap, hmax, hsz, htk⟩
  · obtain rfl := List.eq_nil_of_length_eq_zero hn
    exact ⟨none, 0, [], rfl, ⟨by simp, fun _ => [], rfl, fun h => absurd h (by simp)⟩, rfl⟩
  · have hmx : xs.length ≤ 9223372036854775807 := by have : cap ≤ 9223372036854775807 := hmax; omega
    have key : ∀ i x, xs[i]? = some x → ∃ L, Vis ok w T g (i * T.sz) L ∧ L.length = wt x := fun i x hi => by
      have hM := hr.2 i x hi
      have hil : i < xs.length := (List.getElem?_eq_some_iff.1 hi).1
      have hM2 := d.M_mono (ok' := ok) (fun k hk => hk.1) hM
      obtain ⟨L, v1, e1⟩ := h.vis hM2 g (i * T.sz) cur e hh (fun j u hj => by
        have hjl : j < d.sz := by
          have := (List.getElem?_eq_some_iff.1 hj).1
          rw [List.length_take] at this
          omega
        rw [List.getElem?_take, if_pos hjl, List.getElem?_drop, ← htk] at hj
        have hlt : i * d.sz + j < xs.length * d.sz := by
          have : (i + 1) * d.sz ≤ xs.length * d.sz := Nat.mul_le_mul_right _ hil
          rw [Nat.add_mul, Nat.one_mul] at this
          omega
        rw [List.getElem?_take, if_pos hlt, Array.getElem?_toList] at hj
        rw [← h.sz]
        exact hj)
      exact ⟨L, v1, e1⟩
    classical
    have : ∃ Ls : Nat → List Cel, ∀ i x, xs[i]? = some x → Vis ok w T g (i * T.sz) (Ls i) ∧ (Ls i).length = wt x := by
      refine ⟨fun i => if h : ∃ x, xs[i]? = some x then (key i h.choose h.choose_spec).choose else [], fun i x hi => ?_⟩
      have hex : ∃ x, xs[i]? = some x := ⟨x, hi⟩
      have ex : hex.choose = x := Option.some.inj (hex.choose_spec.symm.trans hi)
      simp only [dif_pos hex]
      have hs := (key i hex.choose hex.choose_spec).choose_spec
      exact ⟨hs.1, by rw [hs.2, ex]⟩
    obtain ⟨Ls, hLs⟩ := this
    refine ⟨some ⟨g, 0, none⟩, cap, cat Ls xs.length, rfl, ⟨hmx, Ls, rfl, fun _ => ⟨g, rfl, h0 g rfl, fun i hi => (hLs i xs[i] (List.getElem?_eq_getElem hi)).1⟩⟩, cat_len wt xs Ls (fun i x hi => (hLs i x hi).2)⟩
theorem Rep.slice {α : Type} {d : Kd α} {T : Ty} {wt : α → Nat} (h : Rep d T wt) (e : Nat) : Rep (Kd.slice e d) (.sl T) (wsum wt) :=
  ⟨rfl, fun {w base ok x cs} hM g o cells t hb hc => by
    obtain ⟨v, rfl, hR⟩ := hM
    obtain ⟨A, c, L, rfl, ⟨hmx, Ls, e1, hrow⟩, hl⟩ := h.row hR
    exact ⟨L, ⟨A, x.length, c, ⟨cells, t, hb, by simpa using hc 0 _ rfl⟩, hmx, Ls, e1, hrow⟩, hl⟩⟩
end Go.Proofs.Ytobachfngmpeiaa.Marks
