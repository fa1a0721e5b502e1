/- The law FnExactChanSend holds for every input: it returns true, and each argument reads behind the call as it read before; the row's conditions are the form's own. -/
import Derived.Test.YtdognghekkpmoaaRows
import Derived.Test.YtdognghekkpmoaaPFnExactChanSendx3
import Derived.Test.YtdognghekkpmoaaPureFnExactChanSend
import Derived.Test.YtdognghekkpmoaaRd
import Derived.WalkKit
import Derived.ProofKit
import Derived.OpenShut
import Derived.ShutString
import Derived.ChangeOld
import Derived.Below
import Derived.SizedLaws
namespace Go.Proofs.Ytdognghekkpmoaa.fnExactChanSend
open Go.ChangeShapes Go.WideShapes Go.ChangeAt Go.RowKit Go.Proofs.YtdognghekkpmoaaW.PrintWords
set_option linter.unusedVariables false
set_option maxRecDepth 100000 in
theorem opint : Rd.Opens Try.prog 3 (Kd.int .i64) (fun n => (Lit.int .i64 n).wf = true) := Rd.Opens.int Try.underlying3
set_option maxRecDepth 100000 in
theorem op__int : Rd.Opens Try.prog 23 (Kd.slice 3 (Kd.int .i64)) (fun (y : (List Int)) => (y.length ≤ maxLen ∧ ∀ x ∈ y, ((Lit.int .i64 x).wf = true))) := Rd.Opens.slice 3 Try.underlying23 (by kernel_rfl) opint
set_option maxRecDepth 100000 in
theorem opbool : Rd.Opens Try.prog 4 Kd.bool (fun _ => True) := Rd.Opens.bool Try.underlying4
set_option maxRecDepth 100000 in
theorem oplaws_Chan_flat : Rd.Opens Try.prog 35 (Kd.pair (Kd.int .i64) (Kd.pair (Kd.slice 3 (Kd.int .i64)) Kd.bool)) (fun (y : Int × (List Int) × Bool) => (((Lit.int .i64 y.1).wf = true) ∧ ((y.2.1.length ≤ maxLen ∧ ∀ x ∈ y.2.1, ((Lit.int .i64 x).wf = true)) ∧ True))) := Rd.Opens.struct Try.underlying35 (by kernel_rfl) (Rd.OpensAt.cons (oka := (fun (y : Int) => ((Lit.int .i64 y).wf = true))) (okb := (fun (y : (List Int) × Bool) => ((y.1.length ≤ maxLen ∧ ∀ x ∈ y.1, ((Lit.int .i64 x).wf = true)) ∧ True))) rfl (by kernel_rfl) opint (Rd.OpensAt.cons (oka := (fun (y : (List Int)) => (y.length ≤ maxLen ∧ ∀ x ∈ y, ((Lit.int .i64 x).wf = true)))) (okb := (fun (y : Bool) => True)) rfl (by kernel_rfl) op__int (Rd.OpensAt.one rfl (by kernel_rfl) opbool)))
theorem own : ownKnob Try.prog.godebug = none := by kernel_rfl
theorem laidOut : laidOutB Try.prog = true := by kernel_rfl
set_option maxHeartbeats 1000000 in
set_option maxRecDepth 100000 in
theorem lifted (os : Os) (started : os.Started) (H : Type) (enc : TypeId × Value → H) :
    ReturnsInHanded {} Try.checked os 13 .any (Rows.fnExactChanSendSpec.pre6 enc Try.prog Try.f13 Rows.fnExactChanSendRow.domain false) (Rows.fnExactChanSendSpec.post enc Try.prog Try.f13 false true false false) := by
  refine returnsInHanded_of_change_sized (C := Try.checked) own started (by kernel_rfl) Try.func13
    (ChangeSpec.witness6 (enc := enc) (C := Try.checked) false ⟨#[], #[.agg #[.int .i64 0, .slice none 0 0, .bool false], .int .i64 0], []⟩ 8 (by kernel_rfl) (by kernel_rfl) (by kernel_rfl) (by kernel_rfl)) ?_
  intro W base args ds gs before hval0 hW hcnd hsz0 _
  have hval : ∀ (j : Nat) t v, Try.f13.params[j]? = some t → args[j]? = some v → Value.okWide Try.prog W .any base t v := hval0
  have hW' := hW
  obtain ⟨p, q, hA0, hV, rfl, hfz, hnd⟩ := hW
  have hA : DataW.TrodAll enc Try.prog W 0 (fun _ => true) true Try.f13.params.toList args.toList ds p := hA0
  rw [Try.params13] at hA hval
  obtain ⟨v0, vs0, d0, ds0, p0, q0, hargs, rfl, rfl, h0, r0⟩ := trodAll_cons hA
  obtain ⟨v1, vs1, d1, ds1, p1, q1, rfl, rfl, rfl, h1, r1⟩ := trodAll_cons r0
  obtain ⟨rfl, rfl, rfl⟩ := trodAll_nil r1
  obtain rfl : args = #[v0, v1] := by cases args; simp_all
  obtain ⟨rfl, rfl⟩ := trodVars_none hV
  have k0 := h0
  have lt0 : ∀ x ∈ p0, x.block < W.heap.size := by obtain ⟨m, hm⟩ := k0; exact DataW.trod_lt m _ _ _ hm
  obtain ⟨y0, cs0, rfl, hK0, ok0⟩ := oplaws_Chan_flat.at_struct Try.underlying35 (hval 0 35 v0 rfl rfl) h0
  obtain ⟨_, _, rfl, rfl, ⟨_, _, rfl, ⟨A0_1, c0_1, rfl, l0_1, g0_1⟩, rfl⟩⟩ := hK0
  have k1 := h1
  have lt1 : ∀ x ∈ p1, x.block < W.heap.size := by obtain ⟨m, hm⟩ := k1; exact DataW.trod_lt m _ _ _ hm
  obtain ⟨n1, rfl, -, -, wf1⟩ := open_int Try.underlying3 (hval 1 3 v1 rfl rfl) h1
  clear hA0 hval0 hsz0 hval hA
  obtain ⟨k, hk⟩ := Pure.FnExactChanSend (y0.1) (y0.2.1) (y0.2.2) (n1) ok0 wf1
  refine (PFnExactChanSend.laws_FnExactChanSend.calls k (y0.1) A0_1 c0_1 (y0.2.1) (y0.2.2) n1 true W g0_1 l0_1 hk).mono fun e W' ⟨he, bel⟩ => ?_
  subst he
  exact ⟨_, rfl, _, _, _, [], _, [], hW', trodAll_mk1 (shut_bool Try.underlying4 _), (trodAll_cons_mk (Below.trod laidOut (by kernel_rfl) (of_decide_eq_true (by kernel_rfl)) k0 bel lt0) (trodAll_cons_mk (Below.trod laidOut (by kernel_rfl) (of_decide_eq_true (by kernel_rfl)) k1 bel lt1) trodAll_mk0)), rfl, bel.frame _, fun h => by cases h⟩
theorem over : Rows.fnExactChanSendRow.holds Try.pinned (OpenSpec.ofChange Rows.fnExactChanSendSpec) :=
  OpenClaim.holds_of_wide 13 Try.f13 rfl rfl rfl rfl rfl rfl rfl ⟨rfl, rfl, rfl, rfl, rfl⟩ rfl rfl rfl rfl rfl (by kernel_rfl) Try.func13 (by kernel_rfl)
    (of_decide_eq_true (by kernel_rfl)) (by unfold Func.isWrapper; first | (rw [if_pos (by decide +kernel)]; kernel_rfl) | (rw [if_neg (by decide +kernel)]; exact ⟨rfl, rfl⟩))
    (fun os started H enc _ => lifted os started H enc)
theorem proved : Rows.FnExactChanSendSaid := over
end Go.Proofs.Ytdognghekkpmoaa.fnExactChanSend
namespace Go.Proofs.Ytdognghekkpmoaa
/-- The row, under a short name, for the claim. -/
theorem fnExactChanSend_holds : Rows.FnExactChanSendSaid := fnExactChanSend.proved
#print axioms fnExactChanSend_holds
end Go.Proofs.Ytdognghekkpmoaa
