/- The law FnExactMachineOk holds for every input: it returns true, and each argument reads behind the call as it read before; the row's conditions are the form's own. -/
import Derived.Test.YtfaoipojijhlbaaRows
import Derived.WalkKit
import Derived.ProofKit
import Derived.OpenShut
import Derived.ShutString
import Derived.ChangeOld
import Derived.Below
import Derived.SizedLaws
import Derived.Test.YtfaoipojijhlbaaZFnExactMachineOka16
import Derived.Test.YtfaoipojijhlbaaZFnExactMachineOka17
namespace Go.Proofs.Ytfaoipojijhlbaa.fnExactMachineOk
open Go.ChangeShapes Go.WideShapes Go.ChangeAt Go.RowKit Go.Proofs.YtfaoipojijhlbaaW.PrintWords
set_option linter.unusedVariables false
set_option maxRecDepth 100000 in
theorem opint : Rd.Opens Try.prog 3 (Kd.int .i64) (fun n => (Lit.int .i64 n).wf = true) := Rd.Opens.int Try.underlying3
set_option maxRecDepth 100000 in
theorem oplaws_Step_flat : Rd.Opens Try.prog 161 (Kd.pair (Kd.int .i64) (Kd.pair (Kd.int .i64) (Kd.pair (Kd.int .i64) (Kd.pair (Kd.int .i64) (Kd.int .i64))))) (fun (y : Int × Int × Int × Int × Int) => (((Lit.int .i64 y.1).wf = true) ∧ (((Lit.int .i64 y.2.1).wf = true) ∧ (((Lit.int .i64 y.2.2.1).wf = true) ∧ (((Lit.int .i64 y.2.2.2.1).wf = true) ∧ ((Lit.int .i64 y.2.2.2.2).wf = true)))))) := Rd.Opens.struct Try.underlying161 (by kernel_rfl) (Rd.OpensAt.cons (oka := (fun (y : Int) => ((Lit.int .i64 y).wf = true))) (okb := (fun (y : Int × Int × Int × Int) => (((Lit.int .i64 y.1).wf = true) ∧ (((Lit.int .i64 y.2.1).wf = true) ∧ (((Lit.int .i64 y.2.2.1).wf = true) ∧ ((Lit.int .i64 y.2.2.2).wf = true)))))) rfl (by kernel_rfl) opint (Rd.OpensAt.cons (oka := (fun (y : Int) => ((Lit.int .i64 y).wf = true))) (okb := (fun (y : Int × Int × Int) => (((Lit.int .i64 y.1).wf = true) ∧ (((Lit.int .i64 y.2.1).wf = true) ∧ ((Lit.int .i64 y.2.2).wf = true))))) rfl (by kernel_rfl) opint (Rd.OpensAt.cons (oka := (fun (y : Int) => ((Lit.int .i64 y).wf = true))) (okb := (fun (y : Int × Int) => (((Lit.int .i64 y.1).wf = true) ∧ ((Lit.int .i64 y.2).wf = true)))) rfl (by kernel_rfl) opint (Rd.OpensAt.cons (oka := (fun (y : Int) => ((Lit.int .i64 y).wf = true))) (okb := (fun (y : Int) => ((Lit.int .i64 y).wf = true))) rfl (by kernel_rfl) opint (Rd.OpensAt.one rfl (by kernel_rfl) opint)))))
set_option maxRecDepth 100000 in
theorem oplaws_Step : Rd.Opens Try.prog 161 PFnExactMachineOk.k161 (fun (y : PFnExactMachineOk.S161) => (((Lit.int .i64 y.f0).wf = true) ∧ (((Lit.int .i64 y.f1).wf = true) ∧ (((Lit.int .i64 y.f2).wf = true) ∧ (((Lit.int .i64 y.f3).wf = true) ∧ ((Lit.int .i64 y.f4).wf = true)))))) := Rd.Opens.weaken (Rd.Opens.iso (fun y : PFnExactMachineOk.S161 => (y.f0, y.f1, y.f2, y.f3, y.f4)) (fun x => ⟨x.1, x.2.1, x.2.2.1, x.2.2.2.1, x.2.2.2.2⟩) (fun _ => rfl) oplaws_Step_flat) (fun _ h => h)
set_option maxRecDepth 100000 in
theorem op__laws_Step : Rd.Opens Try.prog 140 (Kd.slice 161 PFnExactMachineOk.k161) (fun (y : (List PFnExactMachineOk.S161)) => (y.length ≤ maxLen ∧ ∀ z ∈ y, (((Lit.int .i64 z.f0).wf = true) ∧ (((Lit.int .i64 z.f1).wf = true) ∧ (((Lit.int .i64 z.f2).wf = true) ∧ (((Lit.int .i64 z.f3).wf = true) ∧ ((Lit.int .i64 z.f4).wf = true))))))) := Rd.Opens.slice 161 Try.underlying140 (by kernel_rfl) oplaws_Step
set_option maxRecDepth 100000 in
theorem op____laws_Step : Rd.Opens Try.prog 60 (Kd.slice 140 (Kd.slice 161 PFnExactMachineOk.k161)) (fun (y : (List (List PFnExactMachineOk.S161))) => (y.length ≤ maxLen ∧ ∀ z ∈ y, (z.length ≤ maxLen ∧ ∀ z' ∈ z, (((Lit.int .i64 z'.f0).wf = true) ∧ (((Lit.int .i64 z'.f1).wf = true) ∧ (((Lit.int .i64 z'.f2).wf = true) ∧ (((Lit.int .i64 z'.f3).wf = true) ∧ ((Lit.int .i64 z'.f4).wf = true)))))))) := Rd.Opens.slice 140 Try.underlying60 (by kernel_rfl) op__laws_Step
set_option maxRecDepth 100000 in
theorem op__int : Rd.Opens Try.prog 25 (Kd.slice 3 (Kd.int .i64)) (fun (y : (List Int)) => (y.length ≤ maxLen ∧ ∀ z ∈ y, ((Lit.int .i64 z).wf = true))) := Rd.Opens.slice 3 Try.underlying25 (by kernel_rfl) opint
set_option maxRecDepth 100000 in
theorem oplaws_Core_flat : Rd.Opens Try.prog 142 (Kd.pair (Kd.int .i64) (Kd.pair (Kd.slice 3 (Kd.int .i64)) (Kd.pair (Kd.slice 3 (Kd.int .i64)) (Kd.int .i64)))) (fun (y : Int × (List Int) × (List Int) × Int) => (((Lit.int .i64 y.1).wf = true) ∧ ((y.2.1.length ≤ maxLen ∧ ∀ z ∈ y.2.1, ((Lit.int .i64 z).wf = true)) ∧ ((y.2.2.1.length ≤ maxLen ∧ ∀ z ∈ y.2.2.1, ((Lit.int .i64 z).wf = true)) ∧ ((Lit.int .i64 y.2.2.2).wf = true))))) := Rd.Opens.struct Try.underlying142 (by kernel_rfl) (Rd.OpensAt.cons (oka := (fun (y : Int) => ((Lit.int .i64 y).wf = true))) (okb := (fun (y : (List Int) × (List Int) × Int) => ((y.1.length ≤ maxLen ∧ ∀ z ∈ y.1, ((Lit.int .i64 z).wf = true)) ∧ ((y.2.1.length ≤ maxLen ∧ ∀ z ∈ y.2.1, ((Lit.int .i64 z).wf = true)) ∧ ((Lit.int .i64 y.2.2).wf = true))))) rfl (by kernel_rfl) opint (Rd.OpensAt.cons (oka := (fun (y : (List Int)) => (y.length ≤ maxLen ∧ ∀ z ∈ y, ((Lit.int .i64 z).wf = true)))) (okb := (fun (y : (List Int) × Int) => ((y.1.length ≤ maxLen ∧ ∀ z ∈ y.1, ((Lit.int .i64 z).wf = true)) ∧ ((Lit.int .i64 y.2).wf = true)))) rfl (by kernel_rfl) op__int (Rd.OpensAt.cons (oka := (fun (y : (List Int)) => (y.length ≤ maxLen ∧ ∀ z ∈ y, ((Lit.int .i64 z).wf = true)))) (okb := (fun (y : Int) => ((Lit.int .i64 y).wf = true))) rfl (by kernel_rfl) op__int (Rd.OpensAt.one rfl (by kernel_rfl) opint))))
set_option maxRecDepth 100000 in
theorem oplaws_Core : Rd.Opens Try.prog 142 PFnExactMachineOk.k142 (fun (y : PFnExactMachineOk.S142) => (((Lit.int .i64 y.f0).wf = true) ∧ ((y.f1.length ≤ maxLen ∧ ∀ z ∈ y.f1, ((Lit.int .i64 z).wf = true)) ∧ ((y.f2.length ≤ maxLen ∧ ∀ z ∈ y.f2, ((Lit.int .i64 z).wf = true)) ∧ ((Lit.int .i64 y.f3).wf = true))))) := Rd.Opens.weaken (Rd.Opens.iso (fun y : PFnExactMachineOk.S142 => (y.f0, y.f1, y.f2, y.f3)) (fun x => ⟨x.1, x.2.1, x.2.2.1, x.2.2.2⟩) (fun _ => rfl) oplaws_Core_flat) (fun _ h => h)
set_option maxRecDepth 100000 in
theorem op__laws_Core : Rd.Opens Try.prog 61 (Kd.slice 142 PFnExactMachineOk.k142) (fun (y : (List PFnExactMachineOk.S142)) => (y.length ≤ maxLen ∧ ∀ z ∈ y, (((Lit.int .i64 z.f0).wf = true) ∧ ((z.f1.length ≤ maxLen ∧ ∀ z' ∈ z.f1, ((Lit.int .i64 z').wf = true)) ∧ ((z.f2.length ≤ maxLen ∧ ∀ z' ∈ z.f2, ((Lit.int .i64 z').wf = true)) ∧ ((Lit.int .i64 z.f3).wf = true)))))) := Rd.Opens.slice 142 Try.underlying61 (by kernel_rfl) oplaws_Core
set_option maxRecDepth 100000 in
theorem oplaws_Write_flat : Rd.Opens Try.prog 151 (Kd.pair (Kd.int .i64) (Kd.slice 3 (Kd.int .i64))) (fun (y : Int × (List Int)) => (((Lit.int .i64 y.1).wf = true) ∧ (y.2.length ≤ maxLen ∧ ∀ z ∈ y.2, ((Lit.int .i64 z).wf = true)))) := Rd.Opens.struct Try.underlying151 (by kernel_rfl) (Rd.OpensAt.cons (oka := (fun (y : Int) => ((Lit.int .i64 y).wf = true))) (okb := (fun (y : (List Int)) => (y.length ≤ maxLen ∧ ∀ z ∈ y, ((Lit.int .i64 z).wf = true)))) rfl (by kernel_rfl) opint (Rd.OpensAt.one rfl (by kernel_rfl) op__int))
set_option maxRecDepth 100000 in
theorem oplaws_Write : Rd.Opens Try.prog 151 PFnExactMachineOk.k151 (fun (y : PFnExactMachineOk.S151) => (((Lit.int .i64 y.f0).wf = true) ∧ (y.f1.length ≤ maxLen ∧ ∀ z ∈ y.f1, ((Lit.int .i64 z).wf = true)))) := Rd.Opens.weaken (Rd.Opens.iso (fun y : PFnExactMachineOk.S151 => (y.f0, y.f1)) (fun x => ⟨x.1, x.2⟩) (fun _ => rfl) oplaws_Write_flat) (fun _ h => h)
set_option maxRecDepth 100000 in
theorem op__laws_Write : Rd.Opens Try.prog 115 (Kd.slice 151 PFnExactMachineOk.k151) (fun (y : (List PFnExactMachineOk.S151)) => (y.length ≤ maxLen ∧ ∀ z ∈ y, (((Lit.int .i64 z.f0).wf = true) ∧ (z.f1.length ≤ maxLen ∧ ∀ z' ∈ z.f1, ((Lit.int .i64 z').wf = true))))) := Rd.Opens.slice 151 Try.underlying115 (by kernel_rfl) oplaws_Write
set_option maxRecDepth 100000 in
theorem op____laws_Write : Rd.Opens Try.prog 22 (Kd.slice 115 (Kd.slice 151 PFnExactMachineOk.k151)) (fun (y : (List (List PFnExactMachineOk.S151))) => (y.length ≤ maxLen ∧ ∀ z ∈ y, (z.length ≤ maxLen ∧ ∀ z' ∈ z, (((Lit.int .i64 z'.f0).wf = true) ∧ (z'.f1.length ≤ maxLen ∧ ∀ z'' ∈ z'.f1, ((Lit.int .i64 z'').wf = true)))))) := Rd.Opens.slice 115 Try.underlying22 (by kernel_rfl) op__laws_Write
set_option maxRecDepth 100000 in
theorem oplaws_Memory_flat : Rd.Opens Try.prog 24 (Kd.slice 115 (Kd.slice 151 PFnExactMachineOk.k151)) (fun (y : (List (List PFnExactMachineOk.S151))) => (y.length ≤ maxLen ∧ ∀ z ∈ y, (z.length ≤ maxLen ∧ ∀ z' ∈ z, (((Lit.int .i64 z'.f0).wf = true) ∧ (z'.f1.length ≤ maxLen ∧ ∀ z'' ∈ z'.f1, ((Lit.int .i64 z'').wf = true)))))) := Rd.Opens.struct Try.underlying24 (by kernel_rfl) (Rd.OpensAt.one rfl (by kernel_rfl) op____laws_Write)
set_option maxRecDepth 100000 in
theorem oplaws_Note_flat : Rd.Opens Try.prog 134 (Kd.pair (Kd.int .i64) (Kd.int .i64)) (fun (y : Int × Int) => (((Lit.int .i64 y.1).wf = true) ∧ ((Lit.int .i64 y.2).wf = true))) := Rd.Opens.struct Try.underlying134 (by kernel_rfl) (Rd.OpensAt.cons (oka := (fun (y : Int) => ((Lit.int .i64 y).wf = true))) (okb := (fun (y : Int) => ((Lit.int .i64 y).wf = true))) rfl (by kernel_rfl) opint (Rd.OpensAt.one rfl (by kernel_rfl) opint))
set_option maxRecDepth 100000 in
theorem oplaws_Note : Rd.Opens Try.prog 134 PFnExactMachineOk.k134 (fun (y : PFnExactMachineOk.S134) => (((Lit.int .i64 y.f0).wf = true) ∧ ((Lit.int .i64 y.f1).wf = true))) := Rd.Opens.weaken (Rd.Opens.iso (fun y : PFnExactMachineOk.S134 => (y.f0, y.f1)) (fun x => ⟨x.1, x.2⟩) (fun _ => rfl) oplaws_Note_flat) (fun _ h => h)
set_option maxRecDepth 100000 in
theorem op__laws_Note : Rd.Opens Try.prog 41 (Kd.slice 134 PFnExactMachineOk.k134) (fun (y : (List PFnExactMachineOk.S134)) => (y.length ≤ maxLen ∧ ∀ z ∈ y, (((Lit.int .i64 z.f0).wf = true) ∧ ((Lit.int .i64 z.f1).wf = true)))) := Rd.Opens.slice 134 Try.underlying41 (by kernel_rfl) oplaws_Note
set_option maxRecDepth 100000 in
theorem oplaws_Machine_flat : Rd.Opens Try.prog 63 (Kd.pair (Kd.slice 140 (Kd.slice 161 PFnExactMachineOk.k161)) (Kd.pair (Kd.slice 142 PFnExactMachineOk.k142) (Kd.pair (Kd.slice 115 (Kd.slice 151 PFnExactMachineOk.k151)) (Kd.slice 134 PFnExactMachineOk.k134)))) (fun (y : (List (List PFnExactMachineOk.S161)) × (List PFnExactMachineOk.S142) × (List (List PFnExactMachineOk.S151)) × (List PFnExactMachineOk.S134)) => ((y.1.length ≤ maxLen ∧ ∀ z ∈ y.1, (z.length ≤ maxLen ∧ ∀ z' ∈ z, (((Lit.int .i64 z'.f0).wf = true) ∧ (((Lit.int .i64 z'.f1).wf = true) ∧ (((Lit.int .i64 z'.f2).wf = true) ∧ (((Lit.int .i64 z'.f3).wf = true) ∧ ((Lit.int .i64 z'.f4).wf = true))))))) ∧ ((y.2.1.length ≤ maxLen ∧ ∀ z ∈ y.2.1, (((Lit.int .i64 z.f0).wf = true) ∧ ((z.f1.length ≤ maxLen ∧ ∀ z' ∈ z.f1, ((Lit.int .i64 z').wf = true)) ∧ ((z.f2.length ≤ maxLen ∧ ∀ z' ∈ z.f2, ((Lit.int .i64 z').wf = true)) ∧ ((Lit.int .i64 z.f3).wf = true))))) ∧ ((y.2.2.1.length ≤ maxLen ∧ ∀ z ∈ y.2.2.1, (z.length ≤ maxLen ∧ ∀ z' ∈ z, (((Lit.int .i64 z'.f0).wf = true) ∧ (z'.f1.length ≤ maxLen ∧ ∀ z'' ∈ z'.f1, ((Lit.int .i64 z'').wf = true))))) ∧ (y.2.2.2.length ≤ maxLen ∧ ∀ z ∈ y.2.2.2, (((Lit.int .i64 z.f0).wf = true) ∧ ((Lit.int .i64 z.f1).wf = true))))))) := Rd.Opens.struct Try.underlying63 (by kernel_rfl) (Rd.OpensAt.cons (oka := (fun (y : (List (List PFnExactMachineOk.S161))) => (y.length ≤ maxLen ∧ ∀ z ∈ y, (z.length ≤ maxLen ∧ ∀ z' ∈ z, (((Lit.int .i64 z'.f0).wf = true) ∧ (((Lit.int .i64 z'.f1).wf = true) ∧ (((Lit.int .i64 z'.f2).wf = true) ∧ (((Lit.int .i64 z'.f3).wf = true) ∧ ((Lit.int .i64 z'.f4).wf = true))))))))) (okb := (fun (y : (List PFnExactMachineOk.S142) × (List (List PFnExactMachineOk.S151)) × (List PFnExactMachineOk.S134)) => ((y.1.length ≤ maxLen ∧ ∀ z ∈ y.1, (((Lit.int .i64 z.f0).wf = true) ∧ ((z.f1.length ≤ maxLen ∧ ∀ z' ∈ z.f1, ((Lit.int .i64 z').wf = true)) ∧ ((z.f2.length ≤ maxLen ∧ ∀ z' ∈ z.f2, ((Lit.int .i64 z').wf = true)) ∧ ((Lit.int .i64 z.f3).wf = true))))) ∧ ((y.2.1.length ≤ maxLen ∧ ∀ z ∈ y.2.1, (z.length ≤ maxLen ∧ ∀ z' ∈ z, (((Lit.int .i64 z'.f0).wf = true) ∧ (z'.f1.length ≤ maxLen ∧ ∀ z'' ∈ z'.f1, ((Lit.int .i64 z'').wf = true))))) ∧ (y.2.2.length ≤ maxLen ∧ ∀ z ∈ y.2.2, (((Lit.int .i64 z.f0).wf = true) ∧ ((Lit.int .i64 z.f1).wf = true))))))) rfl (by kernel_rfl) op____laws_Step (Rd.OpensAt.cons (oka := (fun (y : (List PFnExactMachineOk.S142)) => (y.length ≤ maxLen ∧ ∀ z ∈ y, (((Lit.int .i64 z.f0).wf = true) ∧ ((z.f1.length ≤ maxLen ∧ ∀ z' ∈ z.f1, ((Lit.int .i64 z').wf = true)) ∧ ((z.f2.length ≤ maxLen ∧ ∀ z' ∈ z.f2, ((Lit.int .i64 z').wf = true)) ∧ ((Lit.int .i64 z.f3).wf = true))))))) (okb := (fun (y : (List (List PFnExactMachineOk.S151)) × (List PFnExactMachineOk.S134)) => ((y.1.length ≤ maxLen ∧ ∀ z ∈ y.1, (z.length ≤ maxLen ∧ ∀ z' ∈ z, (((Lit.int .i64 z'.f0).wf = true) ∧ (z'.f1.length ≤ maxLen ∧ ∀ z'' ∈ z'.f1, ((Lit.int .i64 z'').wf = true))))) ∧ (y.2.length ≤ maxLen ∧ ∀ z ∈ y.2, (((Lit.int .i64 z.f0).wf = true) ∧ ((Lit.int .i64 z.f1).wf = true)))))) rfl (by kernel_rfl) op__laws_Core (Rd.OpensAt.cons (oka := (fun (y : (List (List PFnExactMachineOk.S151))) => (y.length ≤ maxLen ∧ ∀ z ∈ y, (z.length ≤ maxLen ∧ ∀ z' ∈ z, (((Lit.int .i64 z'.f0).wf = true) ∧ (z'.f1.length ≤ maxLen ∧ ∀ z'' ∈ z'.f1, ((Lit.int .i64 z'').wf = true))))))) (okb := (fun (y : (List PFnExactMachineOk.S134)) => (y.length ≤ maxLen ∧ ∀ z ∈ y, (((Lit.int .i64 z.f0).wf = true) ∧ ((Lit.int .i64 z.f1).wf = true))))) rfl (by kernel_rfl) oplaws_Memory_flat (Rd.OpensAt.one rfl (by kernel_rfl) op__laws_Note))))
theorem own : ownKnob Try.prog.godebug = none := by kernel_rfl
theorem laidOut : laidOutB Try.prog = true := by kernel_rfl
set_option maxHeartbeats 1000000 in
set_option maxRecDepth 100000 in
theorem lifted (os : Os) (started : os.Started) (H : Type) (enc : TypeId × Value → H) :
    ReturnsInHanded {} Try.checked os 5 .any (Rows.fnExactMachineOkSpec.pre6 enc Try.prog Try.f5 Rows.fnExactMachineOkRow.domain false) (Rows.fnExactMachineOkSpec.post enc Try.prog Try.f5 false true false false) := by
  refine returnsInHanded_of_change_sized (C := Try.checked) own started (by kernel_rfl) Try.func5
    (ChangeSpec.witness6 (enc := enc) (C := Try.checked) false ⟨#[], #[.agg #[.slice none 0 0, .slice none 0 0, .slice none 0 0, .slice none 0 0]], []⟩ 8 (by kernel_rfl) (by kernel_rfl) (by kernel_rfl) (by kernel_rfl)) ?_
  intro W base args ds gs before hval0 hW hcnd hsz0 _
  have hval : ∀ (j : Nat) t v, Try.f5.params[j]? = some t → args[j]? = some v → Value.okWide Try.prog W .any base t v := hval0
  have hW' := hW
  obtain ⟨p, q, hA0, hV, rfl, hfz, hnd⟩ := hW
  have hA : DataW.TrodAll enc Try.prog W 0 (fun _ => true) true Try.f5.params.toList args.toList ds p := hA0
  rw [Try.params5] at hA hval
  obtain ⟨v0, vs0, d0, ds0, p0, q0, hargs, rfl, rfl, h0, r0⟩ := trodAll_cons hA
  obtain ⟨rfl, rfl, rfl⟩ := trodAll_nil r0
  obtain rfl : args = #[v0] := by cases args; simp_all
  obtain ⟨rfl, rfl⟩ := trodVars_none hV
  have k0 := h0
  have lt0 : ∀ x ∈ p0, x.block < W.heap.size := by obtain ⟨m, hm⟩ := k0; exact DataW.trod_lt m _ _ _ hm
  obtain ⟨y0, cs0, rfl, hK0, ok0⟩ := oplaws_Machine_flat.at_struct Try.underlying63 (hval 0 63 v0 rfl rfl) h0
  obtain ⟨_, _, rfl, ⟨A0_0, c0_0, rfl, l0_0, g0_0⟩, ⟨_, _, rfl, ⟨A0_1, c0_1, rfl, l0_1, g0_1⟩, ⟨_, _, rfl, ⟨A0_2, c0_2, rfl, l0_2, g0_2⟩, ⟨A0_3, c0_3, rfl, l0_3, g0_3⟩⟩⟩⟩ := hK0
  clear hA0 hval0 hsz0 hval hA
  obtain ⟨k, hk⟩ := Pure.FnExactMachineOk (y0.1) (y0.2.1) (y0.2.2.1) (y0.2.2.2) ok0
  refine (PFnExactMachineOk.laws_FnExactMachineOk.calls k A0_0 c0_0 (y0.1) A0_1 c0_1 (y0.2.1) A0_2 c0_2 (y0.2.2.1) A0_3 c0_3 (y0.2.2.2) true W g0_0 l0_0 g0_1 l0_1 g0_2 l0_2 g0_3 l0_3 hk rfl).mono fun e W' ⟨he, bel⟩ => ?_
  subst he
  exact ⟨_, rfl, _, _, _, [], _, [], hW', trodAll_mk1 (shut_bool Try.underlying4 _), (trodAll_cons_mk (Below.trod laidOut (by kernel_rfl) (of_decide_eq_true (by kernel_rfl)) k0 bel lt0) trodAll_mk0), rfl, bel.frame _, fun h => by cases h⟩
theorem over : Rows.fnExactMachineOkRow.holds Try.pinned (OpenSpec.ofChange Rows.fnExactMachineOkSpec) :=
  OpenClaim.holds_of_wide 5 Try.f5 rfl rfl rfl rfl rfl rfl rfl ⟨rfl, rfl, rfl, rfl, rfl⟩ rfl rfl rfl rfl rfl (by kernel_rfl) Try.func5 (by kernel_rfl)
    (of_decide_eq_true (by kernel_rfl)) (by unfold Func.isWrapper; first | (rw [if_pos (by decide +kernel)]; kernel_rfl) | (rw [if_neg (by decide +kernel)]; exact ⟨rfl, rfl⟩))
    (fun os started H enc _ => lifted os started H enc)
theorem proved : Rows.FnExactMachineOkSaid := over
end Go.Proofs.Ytfaoipojijhlbaa.fnExactMachineOk
namespace Go.Proofs.Ytfaoipojijhlbaa
theorem fnExactMachineOk_holds : Rows.FnExactMachineOkSaid := fnExactMachineOk.proved
end Go.Proofs.Ytfaoipojijhlbaa
