/- The law FnExactSwap holds for every input: it returns true, and each argument reads behind the call as it read before; the row's conditions are the form's own. -/
import Derived.Test.YthbcnakmnbilhaaRows
import Derived.WalkKit
import Derived.ProofKit
import Derived.OpenShut
import Derived.ShutString
import Derived.ChangeOld
import Derived.Below
import Derived.SizedLaws
import Derived.Test.YthbcnakmnbilhaaZFnExactSwapa14
import Derived.Test.YthbcnakmnbilhaaZFnExactSwapa15
namespace Go.Proofs.Ythbcnakmnbilhaa.fnExactSwap
open Go.ChangeShapes Go.WideShapes Go.ChangeAt Go.RowKit Go.Proofs.YthbcnakmnbilhaaW.PrintWords
set_option linter.unusedVariables false
set_option maxRecDepth 100000 in
theorem opint : Rd.Opens Try.prog 3 (Kd.int .i64) (fun n => (Lit.int .i64 n).wf = true) := Rd.Opens.int Try.underlying3
set_option maxRecDepth 100000 in
theorem op__int : Rd.Opens Try.prog 31 (Kd.slice 3 (Kd.int .i64)) (fun (y : (List Int)) => (y.length ≤ maxLen ∧ ∀ z ∈ y, ((Lit.int .i64 z).wf = true))) := Rd.Opens.slice 3 Try.underlying31 (by kernel_rfl) opint
set_option maxRecDepth 100000 in
theorem oplaws_Write_flat : Rd.Opens Try.prog 139 (Kd.pair (Kd.int .i64) (Kd.slice 3 (Kd.int .i64))) (fun (y : Int × (List Int)) => (((Lit.int .i64 y.1).wf = true) ∧ (y.2.length ≤ maxLen ∧ ∀ z ∈ y.2, ((Lit.int .i64 z).wf = true)))) := Rd.Opens.struct Try.underlying139 (by kernel_rfl) (Rd.OpensAt.cons (oka := (fun (y : Int) => ((Lit.int .i64 y).wf = true))) (okb := (fun (y : (List Int)) => (y.length ≤ maxLen ∧ ∀ z ∈ y, ((Lit.int .i64 z).wf = true)))) rfl (by kernel_rfl) opint (Rd.OpensAt.one rfl (by kernel_rfl) op__int))
set_option maxRecDepth 100000 in
theorem oplaws_Write : Rd.Opens Try.prog 139 PFnExactSwap.k139 (fun (y : PFnExactSwap.S139) => (((Lit.int .i64 y.f0).wf = true) ∧ (y.f1.length ≤ maxLen ∧ ∀ z ∈ y.f1, ((Lit.int .i64 z).wf = true)))) := Rd.Opens.weaken (Rd.Opens.iso (fun y : PFnExactSwap.S139 => (y.f0, y.f1)) (fun x => ⟨x.1, x.2⟩) (fun _ => rfl) oplaws_Write_flat) (fun _ h => h)
set_option maxRecDepth 100000 in
theorem op__laws_Write : Rd.Opens Try.prog 121 (Kd.slice 139 PFnExactSwap.k139) (fun (y : (List PFnExactSwap.S139)) => (y.length ≤ maxLen ∧ ∀ z ∈ y, (((Lit.int .i64 z.f0).wf = true) ∧ (z.f1.length ≤ maxLen ∧ ∀ z' ∈ z.f1, ((Lit.int .i64 z').wf = true))))) := Rd.Opens.slice 139 Try.underlying121 (by kernel_rfl) oplaws_Write
set_option maxRecDepth 100000 in
theorem op____laws_Write : Rd.Opens Try.prog 45 (Kd.slice 121 (Kd.slice 139 PFnExactSwap.k139)) (fun (y : (List (List PFnExactSwap.S139))) => (y.length ≤ maxLen ∧ ∀ z ∈ y, (z.length ≤ maxLen ∧ ∀ z' ∈ z, (((Lit.int .i64 z'.f0).wf = true) ∧ (z'.f1.length ≤ maxLen ∧ ∀ z'' ∈ z'.f1, ((Lit.int .i64 z'').wf = true)))))) := Rd.Opens.slice 121 Try.underlying45 (by kernel_rfl) op__laws_Write
set_option maxRecDepth 100000 in
theorem oplaws_Memory_flat : Rd.Opens Try.prog 47 (Kd.slice 121 (Kd.slice 139 PFnExactSwap.k139)) (fun (y : (List (List PFnExactSwap.S139))) => (y.length ≤ maxLen ∧ ∀ z ∈ y, (z.length ≤ maxLen ∧ ∀ z' ∈ z, (((Lit.int .i64 z'.f0).wf = true) ∧ (z'.f1.length ≤ maxLen ∧ ∀ z'' ∈ z'.f1, ((Lit.int .i64 z'').wf = true)))))) := Rd.Opens.struct Try.underlying47 (by kernel_rfl) (Rd.OpensAt.one rfl (by kernel_rfl) op____laws_Write)
theorem own : ownKnob Try.prog.godebug = none := by kernel_rfl
theorem laidOut : laidOutB Try.prog = true := by kernel_rfl
set_option maxHeartbeats 1000000 in
set_option maxRecDepth 100000 in
theorem lifted (os : Os) (started : os.Started) (H : Type) (enc : TypeId × Value → H) :
    ReturnsInHanded {} Try.checked os 12 .any (Rows.fnExactSwapSpec.pre6 enc Try.prog Try.f12 Rows.fnExactSwapRow.domain false) (Rows.fnExactSwapSpec.post enc Try.prog Try.f12 false true false false) := by
  refine returnsInHanded_of_change_sized (C := Try.checked) own started (by kernel_rfl) Try.func12
    (ChangeSpec.witness6 (enc := enc) (C := Try.checked) false ⟨#[], #[.agg #[.slice none 0 0], .slice none 0 0, .int .i64 0, .int .i64 0], []⟩ 8 (by kernel_rfl) (by kernel_rfl) (by kernel_rfl) (by kernel_rfl)) ?_
  intro W base args ds gs before hval0 hW hcnd hsz0 _
  have hval : ∀ (j : Nat) t v, Try.f12.params[j]? = some t → args[j]? = some v → Value.okWide Try.prog W .any base t v := hval0
  have hW' := hW
  obtain ⟨p, q, hA0, hV, rfl, hfz, hnd⟩ := hW
  have hA : DataW.TrodAll enc Try.prog W 0 (fun _ => true) true Try.f12.params.toList args.toList ds p := hA0
  rw [Try.params12] at hA hval
  obtain ⟨v0, vs0, d0, ds0, p0, q0, hargs, rfl, rfl, h0, r0⟩ := trodAll_cons hA
  obtain ⟨v1, vs1, d1, ds1, p1, q1, rfl, rfl, rfl, h1, r1⟩ := trodAll_cons r0
  obtain ⟨v2, vs2, d2, ds2, p2, q2, rfl, rfl, rfl, h2, r2⟩ := trodAll_cons r1
  obtain ⟨v3, vs3, d3, ds3, p3, q3, rfl, rfl, rfl, h3, r3⟩ := trodAll_cons r2
  obtain ⟨rfl, rfl, rfl⟩ := trodAll_nil r3
  obtain rfl : args = #[v0, v1, v2, v3] := by cases args; simp_all
  obtain ⟨rfl, rfl⟩ := trodVars_none hV
  have k0 := h0
  have lt0 : ∀ x ∈ p0, x.block < W.heap.size := by obtain ⟨m, hm⟩ := k0; exact DataW.trod_lt m _ _ _ hm
  obtain ⟨y0, cs0, rfl, hK0, ok0⟩ := oplaws_Memory_flat.at_struct Try.underlying47 (hval 0 47 v0 rfl rfl) h0
  obtain ⟨A0_0, c0_0, rfl, l0_0, g0_0⟩ := hK0
  have k1 := h1
  have lt1 : ∀ x ∈ p1, x.block < W.heap.size := by obtain ⟨m, hm⟩ := k1; exact DataW.trod_lt m _ _ _ hm
  obtain ⟨xs1, A1, c1, rfl, hc1, hr1, ok1⟩ := op__int.at_slice Try.underlying31 (hval 1 31 v1 rfl rfl) h1
  have k2 := h2
  have lt2 : ∀ x ∈ p2, x.block < W.heap.size := by obtain ⟨m, hm⟩ := k2; exact DataW.trod_lt m _ _ _ hm
  obtain ⟨n2, rfl, -, -, wf2⟩ := open_int Try.underlying3 (hval 2 3 v2 rfl rfl) h2
  have k3 := h3
  have lt3 : ∀ x ∈ p3, x.block < W.heap.size := by obtain ⟨m, hm⟩ := k3; exact DataW.trod_lt m _ _ _ hm
  obtain ⟨n3, rfl, -, -, wf3⟩ := open_int Try.underlying3 (hval 3 3 v3 rfl rfl) h3
  clear hA0 hval0 hsz0 hval hA
  obtain ⟨k, hk⟩ := Pure.FnExactSwap (y0) (xs1) (n2) (n3) ok0 ok1 wf2 wf3
  refine (PFnExactSwap.laws_FnExactSwap.calls k A0_0 c0_0 (y0) A1 c1 xs1 n2 n3 true W g0_0 l0_0 hr1 hc1 hk rfl).mono fun e W' ⟨he, bel⟩ => ?_
  subst he
  exact ⟨_, rfl, _, _, _, [], _, [], hW', trodAll_mk1 (shut_bool Try.underlying4 _), (trodAll_cons_mk (Below.trod laidOut (by kernel_rfl) (of_decide_eq_true (by kernel_rfl)) k0 bel lt0) (trodAll_cons_mk (Below.trod laidOut (by kernel_rfl) (of_decide_eq_true (by kernel_rfl)) k1 bel lt1) (trodAll_cons_mk (Below.trod laidOut (by kernel_rfl) (of_decide_eq_true (by kernel_rfl)) k2 bel lt2) (trodAll_cons_mk (Below.trod laidOut (by kernel_rfl) (of_decide_eq_true (by kernel_rfl)) k3 bel lt3) trodAll_mk0)))), rfl, bel.frame _, fun h => by cases h⟩
theorem over : Rows.fnExactSwapRow.holds Try.pinned (OpenSpec.ofChange Rows.fnExactSwapSpec) :=
  OpenClaim.holds_of_wide 12 Try.f12 rfl rfl rfl rfl rfl rfl rfl ⟨rfl, rfl, rfl, rfl, rfl⟩ rfl rfl rfl rfl rfl (by kernel_rfl) Try.func12 (by kernel_rfl)
    (of_decide_eq_true (by kernel_rfl)) (by unfold Func.isWrapper; first | (rw [if_pos (by decide +kernel)]; kernel_rfl) | (rw [if_neg (by decide +kernel)]; exact ⟨rfl, rfl⟩))
    (fun os started H enc _ => lifted os started H enc)
theorem proved : Rows.FnExactSwapSaid := over
end Go.Proofs.Ythbcnakmnbilhaa.fnExactSwap
namespace Go.Proofs.Ythbcnakmnbilhaa
theorem fnExactSwap_holds : Rows.FnExactSwapSaid := fnExactSwap.proved
end Go.Proofs.Ythbcnakmnbilhaa
