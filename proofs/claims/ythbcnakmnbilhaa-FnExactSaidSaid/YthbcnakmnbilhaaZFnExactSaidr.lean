/- The law FnExactSaid holds for every input: it returns true, and each argument reads behind the call as it read before; the row's conditions are the form's own. -/
import Derived.Test.YthbcnakmnbilhaaRows
import Derived.WalkKit
import Derived.ProofKit
import Derived.OpenShut
import Derived.ShutString
import Derived.ChangeOld
import Derived.Below
import Derived.SizedLaws
import Derived.Test.YthbcnakmnbilhaaZFnExactSaida7
import Derived.Test.YthbcnakmnbilhaaZFnExactSaida8
namespace Go.Proofs.Ythbcnakmnbilhaa.fnExactSaid
open Go.ChangeShapes Go.WideShapes Go.ChangeAt Go.RowKit Go.Proofs.YthbcnakmnbilhaaW.PrintWords
set_option linter.unusedVariables false
set_option maxRecDepth 100000 in
theorem opint : Rd.Opens Try.prog 3 (Kd.int .i64) (fun n => (Lit.int .i64 n).wf = true) := Rd.Opens.int Try.underlying3
set_option maxRecDepth 100000 in
theorem op__int : Rd.Opens Try.prog 31 (Kd.slice 3 (Kd.int .i64)) (fun (y : (List Int)) => (y.length ≤ maxLen ∧ ∀ z ∈ y, ((Lit.int .i64 z).wf = true))) := Rd.Opens.slice 3 Try.underlying31 (by kernel_rfl) opint
set_option maxRecDepth 100000 in
theorem oplaws_Thread_flat : Rd.Opens Try.prog 125 (Kd.pair (Kd.int .i64) (Kd.pair (Kd.slice 3 (Kd.int .i64)) (Kd.int .i64))) (fun (y : Int × (List Int) × Int) => (((Lit.int .i64 y.1).wf = true) ∧ ((y.2.1.length ≤ maxLen ∧ ∀ z ∈ y.2.1, ((Lit.int .i64 z).wf = true)) ∧ ((Lit.int .i64 y.2.2).wf = true)))) := Rd.Opens.struct Try.underlying125 (by kernel_rfl) (Rd.OpensAt.cons (oka := (fun (y : Int) => ((Lit.int .i64 y).wf = true))) (okb := (fun (y : (List Int) × Int) => ((y.1.length ≤ maxLen ∧ ∀ z ∈ y.1, ((Lit.int .i64 z).wf = true)) ∧ ((Lit.int .i64 y.2).wf = true)))) rfl (by kernel_rfl) opint (Rd.OpensAt.cons (oka := (fun (y : (List Int)) => (y.length ≤ maxLen ∧ ∀ z ∈ y, ((Lit.int .i64 z).wf = true)))) (okb := (fun (y : Int) => ((Lit.int .i64 y).wf = true))) rfl (by kernel_rfl) op__int (Rd.OpensAt.one rfl (by kernel_rfl) opint)))
set_option maxRecDepth 100000 in
theorem oplaws_Thread : Rd.Opens Try.prog 125 PFnExactSaid.k125 (fun (y : PFnExactSaid.S125) => (((Lit.int .i64 y.f0).wf = true) ∧ ((y.f1.length ≤ maxLen ∧ ∀ z ∈ y.f1, ((Lit.int .i64 z).wf = true)) ∧ ((Lit.int .i64 y.f2).wf = true)))) := Rd.Opens.weaken (Rd.Opens.iso (fun y : PFnExactSaid.S125 => (y.f0, y.f1, y.f2)) (fun x => ⟨x.1, x.2.1, x.2.2⟩) (fun _ => rfl) oplaws_Thread_flat) (fun _ h => h)
set_option maxRecDepth 100000 in
theorem op__laws_Thread : Rd.Opens Try.prog 53 (Kd.slice 125 PFnExactSaid.k125) (fun (y : (List PFnExactSaid.S125)) => (y.length ≤ maxLen ∧ ∀ z ∈ y, (((Lit.int .i64 z.f0).wf = true) ∧ ((z.f1.length ≤ maxLen ∧ ∀ z' ∈ z.f1, ((Lit.int .i64 z').wf = true)) ∧ ((Lit.int .i64 z.f2).wf = true))))) := Rd.Opens.slice 125 Try.underlying53 (by kernel_rfl) oplaws_Thread
set_option maxRecDepth 100000 in
theorem opbool : Rd.Opens Try.prog 4 Kd.bool (fun _ => True) := Rd.Opens.bool Try.underlying4
set_option maxRecDepth 100000 in
theorem oplaws_Chan_flat : Rd.Opens Try.prog 127 (Kd.pair (Kd.int .i64) (Kd.pair (Kd.slice 3 (Kd.int .i64)) Kd.bool)) (fun (y : Int × (List Int) × Bool) => (((Lit.int .i64 y.1).wf = true) ∧ ((y.2.1.length ≤ maxLen ∧ ∀ z ∈ y.2.1, ((Lit.int .i64 z).wf = true)) ∧ True))) := Rd.Opens.struct Try.underlying127 (by kernel_rfl) (Rd.OpensAt.cons (oka := (fun (y : Int) => ((Lit.int .i64 y).wf = true))) (okb := (fun (y : (List Int) × Bool) => ((y.1.length ≤ maxLen ∧ ∀ z ∈ y.1, ((Lit.int .i64 z).wf = true)) ∧ True))) rfl (by kernel_rfl) opint (Rd.OpensAt.cons (oka := (fun (y : (List Int)) => (y.length ≤ maxLen ∧ ∀ z ∈ y, ((Lit.int .i64 z).wf = true)))) (okb := (fun (y : Bool) => True)) rfl (by kernel_rfl) op__int (Rd.OpensAt.one rfl (by kernel_rfl) opbool)))
set_option maxRecDepth 100000 in
theorem oplaws_Chan : Rd.Opens Try.prog 127 PFnExactSaid.k127 (fun (y : PFnExactSaid.S127) => (((Lit.int .i64 y.f0).wf = true) ∧ ((y.f1.length ≤ maxLen ∧ ∀ z ∈ y.f1, ((Lit.int .i64 z).wf = true)) ∧ True))) := Rd.Opens.weaken (Rd.Opens.iso (fun y : PFnExactSaid.S127 => (y.f0, y.f1, y.f2)) (fun x => ⟨x.1, x.2.1, x.2.2⟩) (fun _ => rfl) oplaws_Chan_flat) (fun _ h => h)
set_option maxRecDepth 100000 in
theorem op__laws_Chan : Rd.Opens Try.prog 54 (Kd.slice 127 PFnExactSaid.k127) (fun (y : (List PFnExactSaid.S127)) => (y.length ≤ maxLen ∧ ∀ z ∈ y, (((Lit.int .i64 z.f0).wf = true) ∧ ((z.f1.length ≤ maxLen ∧ ∀ z' ∈ z.f1, ((Lit.int .i64 z').wf = true)) ∧ True)))) := Rd.Opens.slice 127 Try.underlying54 (by kernel_rfl) oplaws_Chan
set_option maxRecDepth 100000 in
theorem oplaws_Note_flat : Rd.Opens Try.prog 132 (Kd.pair (Kd.int .i64) (Kd.int .i64)) (fun (y : Int × Int) => (((Lit.int .i64 y.1).wf = true) ∧ ((Lit.int .i64 y.2).wf = true))) := Rd.Opens.struct Try.underlying132 (by kernel_rfl) (Rd.OpensAt.cons (oka := (fun (y : Int) => ((Lit.int .i64 y).wf = true))) (okb := (fun (y : Int) => ((Lit.int .i64 y).wf = true))) rfl (by kernel_rfl) opint (Rd.OpensAt.one rfl (by kernel_rfl) opint))
set_option maxRecDepth 100000 in
theorem oplaws_Note : Rd.Opens Try.prog 132 PFnExactSaid.k132 (fun (y : PFnExactSaid.S132) => (((Lit.int .i64 y.f0).wf = true) ∧ ((Lit.int .i64 y.f1).wf = true))) := Rd.Opens.weaken (Rd.Opens.iso (fun y : PFnExactSaid.S132 => (y.f0, y.f1)) (fun x => ⟨x.1, x.2⟩) (fun _ => rfl) oplaws_Note_flat) (fun _ h => h)
set_option maxRecDepth 100000 in
theorem op__laws_Note : Rd.Opens Try.prog 55 (Kd.slice 132 PFnExactSaid.k132) (fun (y : (List PFnExactSaid.S132)) => (y.length ≤ maxLen ∧ ∀ z ∈ y, (((Lit.int .i64 z.f0).wf = true) ∧ ((Lit.int .i64 z.f1).wf = true)))) := Rd.Opens.slice 132 Try.underlying55 (by kernel_rfl) oplaws_Note
set_option maxRecDepth 100000 in
theorem oplaws_Source_flat : Rd.Opens Try.prog 57 (Kd.pair (Kd.slice 125 PFnExactSaid.k125) (Kd.pair (Kd.slice 127 PFnExactSaid.k127) (Kd.slice 132 PFnExactSaid.k132))) (fun (y : (List PFnExactSaid.S125) × (List PFnExactSaid.S127) × (List PFnExactSaid.S132)) => ((y.1.length ≤ maxLen ∧ ∀ z ∈ y.1, (((Lit.int .i64 z.f0).wf = true) ∧ ((z.f1.length ≤ maxLen ∧ ∀ z' ∈ z.f1, ((Lit.int .i64 z').wf = true)) ∧ ((Lit.int .i64 z.f2).wf = true)))) ∧ ((y.2.1.length ≤ maxLen ∧ ∀ z ∈ y.2.1, (((Lit.int .i64 z.f0).wf = true) ∧ ((z.f1.length ≤ maxLen ∧ ∀ z' ∈ z.f1, ((Lit.int .i64 z').wf = true)) ∧ True))) ∧ (y.2.2.length ≤ maxLen ∧ ∀ z ∈ y.2.2, (((Lit.int .i64 z.f0).wf = true) ∧ ((Lit.int .i64 z.f1).wf = true)))))) := Rd.Opens.struct Try.underlying57 (by kernel_rfl) (Rd.OpensAt.cons (oka := (fun (y : (List PFnExactSaid.S125)) => (y.length ≤ maxLen ∧ ∀ z ∈ y, (((Lit.int .i64 z.f0).wf = true) ∧ ((z.f1.length ≤ maxLen ∧ ∀ z' ∈ z.f1, ((Lit.int .i64 z').wf = true)) ∧ ((Lit.int .i64 z.f2).wf = true)))))) (okb := (fun (y : (List PFnExactSaid.S127) × (List PFnExactSaid.S132)) => ((y.1.length ≤ maxLen ∧ ∀ z ∈ y.1, (((Lit.int .i64 z.f0).wf = true) ∧ ((z.f1.length ≤ maxLen ∧ ∀ z' ∈ z.f1, ((Lit.int .i64 z').wf = true)) ∧ True))) ∧ (y.2.length ≤ maxLen ∧ ∀ z ∈ y.2, (((Lit.int .i64 z.f0).wf = true) ∧ ((Lit.int .i64 z.f1).wf = true)))))) rfl (by kernel_rfl) op__laws_Thread (Rd.OpensAt.cons (oka := (fun (y : (List PFnExactSaid.S127)) => (y.length ≤ maxLen ∧ ∀ z ∈ y, (((Lit.int .i64 z.f0).wf = true) ∧ ((z.f1.length ≤ maxLen ∧ ∀ z' ∈ z.f1, ((Lit.int .i64 z').wf = true)) ∧ True))))) (okb := (fun (y : (List PFnExactSaid.S132)) => (y.length ≤ maxLen ∧ ∀ z ∈ y, (((Lit.int .i64 z.f0).wf = true) ∧ ((Lit.int .i64 z.f1).wf = true))))) rfl (by kernel_rfl) op__laws_Chan (Rd.OpensAt.one rfl (by kernel_rfl) op__laws_Note)))
theorem own : ownKnob Try.prog.godebug = none := by kernel_rfl
theorem laidOut : laidOutB Try.prog = true := by kernel_rfl
set_option maxHeartbeats 1000000 in
set_option maxRecDepth 100000 in
theorem lifted (os : Os) (started : os.Started) (H : Type) (enc : TypeId × Value → H) :
    ReturnsInHanded {} Try.checked os 7 .any (Rows.fnExactSaidSpec.pre6 enc Try.prog Try.f7 Rows.fnExactSaidRow.domain false) (Rows.fnExactSaidSpec.post enc Try.prog Try.f7 false true false false) := by
  refine returnsInHanded_of_change_sized (C := Try.checked) own started (by kernel_rfl) Try.func7
    (ChangeSpec.witness6 (enc := enc) (C := Try.checked) false ⟨#[], #[.agg #[.slice none 0 0, .slice none 0 0, .slice none 0 0], .int .i64 0], []⟩ 8 (by kernel_rfl) (by kernel_rfl) (by kernel_rfl) (by kernel_rfl)) ?_
  intro W base args ds gs before hval0 hW hcnd hsz0 _
  have hval : ∀ (j : Nat) t v, Try.f7.params[j]? = some t → args[j]? = some v → Value.okWide Try.prog W .any base t v := hval0
  have hW' := hW
  obtain ⟨p, q, hA0, hV, rfl, hfz, hnd⟩ := hW
  have hA : DataW.TrodAll enc Try.prog W 0 (fun _ => true) true Try.f7.params.toList args.toList ds p := hA0
  rw [Try.params7] at hA hval
  obtain ⟨v0, vs0, d0, ds0, p0, q0, hargs, rfl, rfl, h0, r0⟩ := trodAll_cons hA
  obtain ⟨v1, vs1, d1, ds1, p1, q1, rfl, rfl, rfl, h1, r1⟩ := trodAll_cons r0
  obtain ⟨rfl, rfl, rfl⟩ := trodAll_nil r1
  obtain rfl : args = #[v0, v1] := by cases args; simp_all
  obtain ⟨rfl, rfl⟩ := trodVars_none hV
  have k0 := h0
  have lt0 : ∀ x ∈ p0, x.block < W.heap.size := by obtain ⟨m, hm⟩ := k0; exact DataW.trod_lt m _ _ _ hm
  obtain ⟨y0, cs0, rfl, hK0, ok0⟩ := oplaws_Source_flat.at_struct Try.underlying57 (hval 0 57 v0 rfl rfl) h0
  obtain ⟨_, _, rfl, ⟨A0_0, c0_0, rfl, l0_0, g0_0⟩, ⟨_, _, rfl, ⟨A0_1, c0_1, rfl, l0_1, g0_1⟩, ⟨A0_2, c0_2, rfl, l0_2, g0_2⟩⟩⟩ := hK0
  have k1 := h1
  have lt1 : ∀ x ∈ p1, x.block < W.heap.size := by obtain ⟨m, hm⟩ := k1; exact DataW.trod_lt m _ _ _ hm
  obtain ⟨n1, rfl, -, -, wf1⟩ := open_int Try.underlying3 (hval 1 3 v1 rfl rfl) h1
  clear hA0 hval0 hsz0 hval hA
  obtain ⟨k, hk⟩ := Pure.FnExactSaid (y0.1) (y0.2.1) (y0.2.2) (n1) ok0 wf1
  refine (PFnExactSaid.laws_FnExactSaid.calls k A0_0 c0_0 (y0.1) A0_1 c0_1 (y0.2.1) A0_2 c0_2 (y0.2.2) n1 true W g0_0 l0_0 g0_1 l0_1 g0_2 l0_2 hk rfl).mono fun e W' ⟨he, bel⟩ => ?_
  subst he
  exact ⟨_, rfl, _, _, _, [], _, [], hW', trodAll_mk1 (shut_bool Try.underlying4 _), (trodAll_cons_mk (Below.trod laidOut (by kernel_rfl) (of_decide_eq_true (by kernel_rfl)) k0 bel lt0) (trodAll_cons_mk (Below.trod laidOut (by kernel_rfl) (of_decide_eq_true (by kernel_rfl)) k1 bel lt1) trodAll_mk0)), rfl, bel.frame _, fun h => by cases h⟩
theorem over : Rows.fnExactSaidRow.holds Try.pinned (OpenSpec.ofChange Rows.fnExactSaidSpec) :=
  OpenClaim.holds_of_wide 7 Try.f7 rfl rfl rfl rfl rfl rfl rfl ⟨rfl, rfl, rfl, rfl, rfl⟩ rfl rfl rfl rfl rfl (by kernel_rfl) Try.func7 (by kernel_rfl)
    (of_decide_eq_true (by kernel_rfl)) (by unfold Func.isWrapper; first | (rw [if_pos (by decide +kernel)]; kernel_rfl) | (rw [if_neg (by decide +kernel)]; exact ⟨rfl, rfl⟩))
    (fun os started H enc _ => lifted os started H enc)
theorem proved : Rows.FnExactSaidSaid := over
end Go.Proofs.Ythbcnakmnbilhaa.fnExactSaid
namespace Go.Proofs.Ythbcnakmnbilhaa
theorem fnExactSaid_holds : Rows.FnExactSaidSaid := fnExactSaid.proved
end Go.Proofs.Ythbcnakmnbilhaa
