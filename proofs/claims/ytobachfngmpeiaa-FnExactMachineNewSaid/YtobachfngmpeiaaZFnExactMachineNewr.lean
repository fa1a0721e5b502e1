/- The law FnExactMachineNew holds for every input: it returns true, and each argument reads behind the call as it read before; the row's conditions are the form's own. -/
import Derived.Test.YtobachfngmpeiaaRows
import Derived.WalkKit
import Derived.ProofKit
import Derived.OpenShut
import Derived.ShutString
import Derived.ChangeOld
import Derived.Below
import Derived.SizedLaws
import Derived.Test.YtobachfngmpeiaaZFnExactMachineNewa23
namespace Go.Proofs.Ytobachfngmpeiaa.fnExactMachineNew
open Go.ChangeShapes Go.WideShapes Go.ChangeAt Go.RowKit Go.Proofs.YtobachfngmpeiaaW.PrintWords
set_option linter.unusedVariables false
set_option maxRecDepth 100000 in
theorem opint : Rd.Opens Try.prog 3 (Kd.int .i64) (fun n => (Lit.int .i64 n).wf = true) := Rd.Opens.int Try.underlying3
set_option maxRecDepth 100000 in
theorem oplaws_Step_flat : Rd.Opens Try.prog 177 (Kd.pair (Kd.int .i64) (Kd.pair (Kd.int .i64) (Kd.pair (Kd.int .i64) (Kd.pair (Kd.int .i64) (Kd.int .i64))))) (fun (y : Int × Int × Int × Int × Int) => (((Lit.int .i64 y.1).wf = true) ∧ (((Lit.int .i64 y.2.1).wf = true) ∧ (((Lit.int .i64 y.2.2.1).wf = true) ∧ (((Lit.int .i64 y.2.2.2.1).wf = true) ∧ ((Lit.int .i64 y.2.2.2.2).wf = true)))))) := Rd.Opens.struct Try.underlying177 (by kernel_rfl) (Rd.OpensAt.cons (oka := (fun (y : Int) => ((Lit.int .i64 y).wf = true))) (okb := (fun (y : Int × Int × Int × Int) => (((Lit.int .i64 y.1).wf = true) ∧ (((Lit.int .i64 y.2.1).wf = true) ∧ (((Lit.int .i64 y.2.2.1).wf = true) ∧ ((Lit.int .i64 y.2.2.2).wf = true)))))) rfl (by kernel_rfl) opint (Rd.OpensAt.cons (oka := (fun (y : Int) => ((Lit.int .i64 y).wf = true))) (okb := (fun (y : Int × Int × Int) => (((Lit.int .i64 y.1).wf = true) ∧ (((Lit.int .i64 y.2.1).wf = true) ∧ ((Lit.int .i64 y.2.2).wf = true))))) rfl (by kernel_rfl) opint (Rd.OpensAt.cons (oka := (fun (y : Int) => ((Lit.int .i64 y).wf = true))) (okb := (fun (y : Int × Int) => (((Lit.int .i64 y.1).wf = true) ∧ ((Lit.int .i64 y.2).wf = true)))) rfl (by kernel_rfl) opint (Rd.OpensAt.cons (oka := (fun (y : Int) => ((Lit.int .i64 y).wf = true))) (okb := (fun (y : Int) => ((Lit.int .i64 y).wf = true))) rfl (by kernel_rfl) opint (Rd.OpensAt.one rfl (by kernel_rfl) opint)))))
set_option maxRecDepth 100000 in
theorem oplaws_Step : Rd.Opens Try.prog 177 PFnExactMachineNew.k177 (fun (y : PFnExactMachineNew.S177) => (((Lit.int .i64 y.f0).wf = true) ∧ (((Lit.int .i64 y.f1).wf = true) ∧ (((Lit.int .i64 y.f2).wf = true) ∧ (((Lit.int .i64 y.f3).wf = true) ∧ ((Lit.int .i64 y.f4).wf = true)))))) := Rd.Opens.weaken (Rd.Opens.iso (fun y : PFnExactMachineNew.S177 => (y.f0, y.f1, y.f2, y.f3, y.f4)) (fun x => ⟨x.1, x.2.1, x.2.2.1, x.2.2.2.1, x.2.2.2.2⟩) (fun _ => rfl) oplaws_Step_flat) (fun _ h => h)
set_option maxRecDepth 100000 in
theorem op__laws_Step : Rd.Opens Try.prog 119 (Kd.slice 177 PFnExactMachineNew.k177) (fun (y : (List PFnExactMachineNew.S177)) => (y.length ≤ maxLen ∧ ∀ z ∈ y, (((Lit.int .i64 z.f0).wf = true) ∧ (((Lit.int .i64 z.f1).wf = true) ∧ (((Lit.int .i64 z.f2).wf = true) ∧ (((Lit.int .i64 z.f3).wf = true) ∧ ((Lit.int .i64 z.f4).wf = true))))))) := Rd.Opens.slice 177 Try.underlying119 (by kernel_rfl) oplaws_Step
set_option maxRecDepth 100000 in
theorem op____laws_Step : Rd.Opens Try.prog 51 (Kd.slice 119 (Kd.slice 177 PFnExactMachineNew.k177)) (fun (y : (List (List PFnExactMachineNew.S177))) => (y.length ≤ maxLen ∧ ∀ z ∈ y, (z.length ≤ maxLen ∧ ∀ z' ∈ z, (((Lit.int .i64 z'.f0).wf = true) ∧ (((Lit.int .i64 z'.f1).wf = true) ∧ (((Lit.int .i64 z'.f2).wf = true) ∧ (((Lit.int .i64 z'.f3).wf = true) ∧ ((Lit.int .i64 z'.f4).wf = true)))))))) := Rd.Opens.slice 119 Try.underlying51 (by kernel_rfl) op__laws_Step
theorem own : ownKnob Try.prog.godebug = none := by kernel_rfl
theorem laidOut : laidOutB Try.prog = true := by kernel_rfl
set_option maxHeartbeats 1000000 in
set_option maxRecDepth 100000 in
theorem lifted (os : Os) (started : os.Started) (H : Type) (enc : TypeId × Value → H) :
    ReturnsInHanded {} Try.checked os 5 .any (Rows.fnExactMachineNewSpec.pre6 enc Try.prog Try.f5 Rows.fnExactMachineNewRow.domain false) (Rows.fnExactMachineNewSpec.post enc Try.prog Try.f5 false true false false) := by
  refine returnsInHanded_of_change_sized (C := Try.checked) own started (by kernel_rfl) Try.func5
    (ChangeSpec.witness6 (enc := enc) (C := Try.checked) false ⟨#[], #[.slice none 0 0], []⟩ 8 (by kernel_rfl) (by kernel_rfl) (by kernel_rfl) (by kernel_rfl)) ?_
  intro W base args ds gs before hval0 hW hcnd hsz0 _
  have hval : ∀ (j : Nat) t v, Try.f5.params[j]? = some t → args[j]? = some v → Value.okWide Try.prog W .any base t v := hval0
  have hW' := hW
  obtain ⟨p, q, hA0, hV, rfl, hfz, hnd⟩ := hW
  have hA : DataW.TrodAll enc Try.prog W 0 (fun _ => true) true Try.f5.params.toList args.toList ds p := hA0
  rw [Try.params5] at hA hval
  obtain ⟨v0, vs0, d0, ds0, p0, q0, hargs, rfl, rfl, h0, r0⟩ := trodAll_cons hA
  obtain ⟨rfl, rfl, rfl⟩ := trodAll_nil r0
  obtain rfl : args = #[v0] := by cases args; simp_all
  obtain ⟨rfl, rfl⟩ := trodVars_none hV
  have k0 := h0
  have lt0 : ∀ x ∈ p0, x.block < W.heap.size := by obtain ⟨m, hm⟩ := k0; exact DataW.trod_lt m _ _ _ hm
  obtain ⟨xs0, A0, c0, rfl, hc0, hr0, ok0⟩ := op____laws_Step.at_slice Try.underlying51 (hval 0 51 v0 rfl rfl) h0
  clear hA0 hval0 hsz0 hval hA
  obtain ⟨k, hk⟩ := Pure.FnExactMachineNew (xs0) ok0
  refine (PFnExactMachineNew.laws_FnExactMachineNew.calls k A0 c0 xs0 true W hr0 hc0 hk rfl).mono fun e W' ⟨he, bel⟩ => ?_
  subst he
  exact ⟨_, rfl, _, _, _, [], _, [], hW', trodAll_mk1 (shut_bool Try.underlying4 _), (trodAll_cons_mk (Below.trod laidOut (by kernel_rfl) (of_decide_eq_true (by kernel_rfl)) k0 bel lt0) trodAll_mk0), rfl, bel.frame _, fun h => by cases h⟩
theorem over : Rows.fnExactMachineNewRow.holds Try.pinned (OpenSpec.ofChange Rows.fnExactMachineNewSpec) :=
  OpenClaim.holds_of_wide 5 Try.f5 rfl rfl rfl rfl rfl rfl rfl ⟨rfl, rfl, rfl, rfl, rfl⟩ rfl rfl rfl rfl rfl (by kernel_rfl) Try.func5 (by kernel_rfl)
    (of_decide_eq_true (by kernel_rfl)) (by unfold Func.isWrapper; first | (rw [if_pos (by decide +kernel)]; kernel_rfl) | (rw [if_neg (by decide +kernel)]; exact ⟨rfl, rfl⟩))
    (fun os started H enc _ => lifted os started H enc)
theorem proved : Rows.FnExactMachineNewSaid := over
end Go.Proofs.Ytobachfngmpeiaa.fnExactMachineNew
namespace Go.Proofs.Ytobachfngmpeiaa
theorem fnExactMachineNew_holds : Rows.FnExactMachineNewSaid := fnExactMachineNew.proved
end Go.Proofs.Ytobachfngmpeiaa
