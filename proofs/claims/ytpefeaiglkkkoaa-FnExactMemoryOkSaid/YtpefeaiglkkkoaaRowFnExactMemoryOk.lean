/- The law FnExactMemoryOk holds for every input: it returns true, and each argument reads behind the call as it read before; the row's conditions are the form's own. -/
import Derived.Test.YtpefeaiglkkkoaaRows
import Derived.Test.YtpefeaiglkkkoaaPFnExactMemoryOkx5
import Derived.Test.YtpefeaiglkkkoaaPureFnExactMemoryOk
import Derived.Test.YtpefeaiglkkkoaaRd
import Derived.WalkKit
import Derived.ProofKit
import Derived.OpenShut
import Derived.ShutString
import Derived.ChangeOld
import Derived.Below
import Derived.SizedLaws
namespace Go.Proofs.Ytpefeaiglkkkoaa.fnExactMemoryOk
open Go.ChangeShapes Go.WideShapes Go.ChangeAt Go.RowKit Go.Proofs.YtpefeaiglkkkoaaW.PrintWords
set_option linter.unusedVariables false
set_option maxRecDepth 100000 in
theorem opint : Rd.Opens Try.prog 3 (Kd.int .i64) (fun n => (Lit.int .i64 n).wf = true) := Rd.Opens.int Try.underlying3
set_option maxRecDepth 100000 in
theorem op__int : Rd.Opens Try.prog 24 (Kd.slice 3 (Kd.int .i64)) (fun (y : (List Int)) => (y.length ≤ maxLen ∧ ∀ z ∈ y, ((Lit.int .i64 z).wf = true))) := Rd.Opens.slice 3 Try.underlying24 (by kernel_rfl) opint
set_option maxRecDepth 100000 in
theorem oplaws_Write_flat : Rd.Opens Try.prog 136 (Kd.pair (Kd.int .i64) (Kd.slice 3 (Kd.int .i64))) (fun (y : Int × (List Int)) => (((Lit.int .i64 y.1).wf = true) ∧ (y.2.length ≤ maxLen ∧ ∀ z ∈ y.2, ((Lit.int .i64 z).wf = true)))) := Rd.Opens.struct Try.underlying136 (by kernel_rfl) (Rd.OpensAt.cons (oka := (fun (y : Int) => ((Lit.int .i64 y).wf = true))) (okb := (fun (y : (List Int)) => (y.length ≤ maxLen ∧ ∀ z ∈ y, ((Lit.int .i64 z).wf = true)))) rfl (by kernel_rfl) opint (Rd.OpensAt.one rfl (by kernel_rfl) op__int))
set_option maxRecDepth 100000 in
theorem oplaws_Write : Rd.Opens Try.prog 136 PFnExactMemoryOk.k136 (fun (y : PFnExactMemoryOk.S136) => (((Lit.int .i64 y.f0).wf = true) ∧ (y.f1.length ≤ maxLen ∧ ∀ z ∈ y.f1, ((Lit.int .i64 z).wf = true)))) := Rd.Opens.weaken (Rd.Opens.iso (fun y : PFnExactMemoryOk.S136 => (y.f0, y.f1)) (fun x => ⟨x.1, x.2⟩) (fun _ => rfl) oplaws_Write_flat) (fun _ h => h)
set_option maxRecDepth 100000 in
theorem op__laws_Write : Rd.Opens Try.prog 129 (Kd.slice 136 PFnExactMemoryOk.k136) (fun (y : (List PFnExactMemoryOk.S136)) => (y.length ≤ maxLen ∧ ∀ z ∈ y, (((Lit.int .i64 z.f0).wf = true) ∧ (z.f1.length ≤ maxLen ∧ ∀ z' ∈ z.f1, ((Lit.int .i64 z').wf = true))))) := Rd.Opens.slice 136 Try.underlying129 (by kernel_rfl) oplaws_Write
set_option maxRecDepth 100000 in
theorem op____laws_Write : Rd.Opens Try.prog 69 (Kd.slice 129 (Kd.slice 136 PFnExactMemoryOk.k136)) (fun (y : (List (List PFnExactMemoryOk.S136))) => (y.length ≤ maxLen ∧ ∀ z ∈ y, (z.length ≤ maxLen ∧ ∀ z' ∈ z, (((Lit.int .i64 z'.f0).wf = true) ∧ (z'.f1.length ≤ maxLen ∧ ∀ z'' ∈ z'.f1, ((Lit.int .i64 z'').wf = true)))))) := Rd.Opens.slice 129 Try.underlying69 (by kernel_rfl) op__laws_Write
set_option maxRecDepth 100000 in
theorem oplaws_Memory_flat : Rd.Opens Try.prog 71 (Kd.slice 129 (Kd.slice 136 PFnExactMemoryOk.k136)) (fun (y : (List (List PFnExactMemoryOk.S136))) => (y.length ≤ maxLen ∧ ∀ z ∈ y, (z.length ≤ maxLen ∧ ∀ z' ∈ z, (((Lit.int .i64 z'.f0).wf = true) ∧ (z'.f1.length ≤ maxLen ∧ ∀ z'' ∈ z'.f1, ((Lit.int .i64 z'').wf = true)))))) := Rd.Opens.struct Try.underlying71 (by kernel_rfl) (Rd.OpensAt.one rfl (by kernel_rfl) op____laws_Write)
theorem own : ownKnob Try.prog.godebug = none := by kernel_rfl
theorem laidOut : laidOutB Try.prog = true := by kernel_rfl
set_option maxHeartbeats 1000000 in
set_option maxRecDepth 100000 in
theorem lifted (os : Os) (started : os.Started) (H : Type) (enc : TypeId × Value → H) :
    ReturnsInHanded {} Try.checked os 13 .any (Rows.fnExactMemoryOkSpec.pre6 enc Try.prog Try.f13 Rows.fnExactMemoryOkRow.domain false) (Rows.fnExactMemoryOkSpec.post enc Try.prog Try.f13 false true false false) := by
  refine returnsInHanded_of_change_sized (C := Try.checked) own started (by kernel_rfl) Try.func13
    (ChangeSpec.witness6 (enc := enc) (C := Try.checked) false ⟨#[], #[.agg #[.slice none 0 0]], []⟩ 8 (by kernel_rfl) (by kernel_rfl) (by kernel_rfl) (by kernel_rfl)) ?_
  intro W base args ds gs before hval0 hW hcnd hsz0 _
  have hval : ∀ (j : Nat) t v, Try.f13.params[j]? = some t → args[j]? = some v → Value.okWide Try.prog W .any base t v := hval0
  have hW' := hW
  obtain ⟨p, q, hA0, hV, rfl, hfz, hnd⟩ := hW
  have hA : DataW.TrodAll enc Try.prog W 0 (fun _ => true) true Try.f13.params.toList args.toList ds p := hA0
  rw [Try.params13] at hA hval
  obtain ⟨v0, vs0, d0, ds0, p0, q0, hargs, rfl, rfl, h0, r0⟩ := trodAll_cons hA
  obtain ⟨rfl, rfl, rfl⟩ := trodAll_nil r0
  obtain rfl : args = #[v0] := by cases args; simp_all
  obtain ⟨rfl, rfl⟩ := trodVars_none hV
  have k0 := h0
  have lt0 : ∀ x ∈ p0, x.block < W.heap.size := by obtain ⟨m, hm⟩ := k0; exact DataW.trod_lt m _ _ _ hm
  obtain ⟨y0, cs0, rfl, hK0, ok0⟩ := oplaws_Memory_flat.at_struct Try.underlying71 (hval 0 71 v0 rfl rfl) h0
  obtain ⟨A0_0, c0_0, rfl, l0_0, g0_0⟩ := hK0
  clear hA0 hval0 hsz0 hval hA
  obtain ⟨k, hk⟩ := Pure.FnExactMemoryOk (y0) ok0
  refine (PFnExactMemoryOk.laws_FnExactMemoryOk.calls k A0_0 c0_0 (y0) true W g0_0 l0_0 hk).mono fun e W' ⟨he, bel⟩ => ?_
  subst he
  exact ⟨_, rfl, _, _, _, [], _, [], hW', trodAll_mk1 (shut_bool Try.underlying4 _), (trodAll_cons_mk (Below.trod laidOut (by kernel_rfl) (of_decide_eq_true (by kernel_rfl)) k0 bel lt0) trodAll_mk0), rfl, bel.frame _, fun h => by cases h⟩
theorem over : Rows.fnExactMemoryOkRow.holds Try.pinned (OpenSpec.ofChange Rows.fnExactMemoryOkSpec) :=
  OpenClaim.holds_of_wide 13 Try.f13 rfl rfl rfl rfl rfl rfl rfl ⟨rfl, rfl, rfl, rfl, rfl⟩ rfl rfl rfl rfl rfl (by kernel_rfl) Try.func13 (by kernel_rfl)
    (of_decide_eq_true (by kernel_rfl)) (by unfold Func.isWrapper; first | (rw [if_pos (by decide +kernel)]; kernel_rfl) | (rw [if_neg (by decide +kernel)]; exact ⟨rfl, rfl⟩))
    (fun os started H enc _ => lifted os started H enc)
theorem proved : Rows.FnExactMemoryOkSaid := over
end Go.Proofs.Ytpefeaiglkkkoaa.fnExactMemoryOk
namespace Go.Proofs.Ytpefeaiglkkkoaa
/-- The row, under a short name, for the claim. -/
theorem fnExactMemoryOk_holds : Rows.FnExactMemoryOkSaid := fnExactMemoryOk.proved
#print axioms fnExactMemoryOk_holds
end Go.Proofs.Ytpefeaiglkkkoaa
