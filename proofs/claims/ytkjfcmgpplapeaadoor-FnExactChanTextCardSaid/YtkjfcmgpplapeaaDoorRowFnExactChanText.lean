/- The law FnExactChanText holds for every input: it returns true, and each argument reads behind the call as it read before; the row's conditions are the form's own. -/
import Derived.Test.YtkjfcmgpplapeaaDoorRows
import Derived.Test.YtkjfcmgpplapeaaDoorPFnExactChanTextx3
import Derived.Test.YtkjfcmgpplapeaaDoorPureFnExactChanText
import Derived.Test.YtkjfcmgpplapeaaDoorRd
import Derived.WalkKit
import Derived.ProofKit
import Derived.OpenShut
import Derived.ShutString
import Derived.ChangeOld
import Derived.Below
import Derived.SizedLaws
import Derived.LaidMore
import Derived.Lay
import Derived.Stop.Joined
import Derived.SevenTiedAt
import Derived.Test.YtkjfcmgpplapeaaDoorTabRow
import Derived.Test.YtkjfcmgpplapeaaDoorTie
import Derived.Test.YtkjfcmgpplapeaaDoorCards
namespace Go.Proofs.YtkjfcmgpplapeaaDoor.fnExactChanText
open Go.ChangeShapes Go.WideShapes Go.ChangeAt Go.RowKit Go.Proofs.YtkjfcmgpplapeaaDoorW.PrintWords
set_option linter.unusedVariables false
set_option maxRecDepth 100000 in
theorem opint : Rd.Opens Tryd.prog 3 (Kd.int .i64) (fun n => (Lit.int .i64 n).wf = true) := Rd.Opens.int Tryd.underlying3
set_option maxRecDepth 100000 in
theorem op__int : Rd.Opens Tryd.prog 35 (Kd.slice 3 (Kd.int .i64)) (fun (y : (List Int)) => (y.length ≤ maxLen ∧ ∀ z ∈ y, ((Lit.int .i64 z).wf = true))) := Rd.Opens.slice 3 Tryd.underlying35 (by kernel_rfl) opint
set_option maxRecDepth 100000 in
theorem opbool : Rd.Opens Tryd.prog 4 Kd.bool (fun _ => True) := Rd.Opens.bool Tryd.underlying4
set_option maxRecDepth 100000 in
theorem oplaws_Chan_flat : Rd.Opens Tryd.prog 37 (Kd.pair (Kd.int .i64) (Kd.pair (Kd.slice 3 (Kd.int .i64)) Kd.bool)) (fun (y : Int × (List Int) × Bool) => (((Lit.int .i64 y.1).wf = true) ∧ ((y.2.1.length ≤ maxLen ∧ ∀ z ∈ y.2.1, ((Lit.int .i64 z).wf = true)) ∧ True))) := Rd.Opens.struct Tryd.underlying37 (by kernel_rfl) (Rd.OpensAt.cons (oka := (fun (y : Int) => ((Lit.int .i64 y).wf = true))) (okb := (fun (y : (List Int) × Bool) => ((y.1.length ≤ maxLen ∧ ∀ z ∈ y.1, ((Lit.int .i64 z).wf = true)) ∧ True))) rfl (by kernel_rfl) opint (Rd.OpensAt.cons (oka := (fun (y : (List Int)) => (y.length ≤ maxLen ∧ ∀ z ∈ y, ((Lit.int .i64 z).wf = true)))) (okb := (fun (y : Bool) => True)) rfl (by kernel_rfl) op__int (Rd.OpensAt.one rfl (by kernel_rfl) opbool)))
theorem own : ownKnob Tryd.prog.godebug = none := by kernel_rfl
theorem laidOut : laidOutB Tryd.prog = true := by kernel_rfl
set_option maxHeartbeats 1000000 in
set_option maxRecDepth 100000 in
theorem lifted (os : Os) (started : os.Started) (H : Type) (enc : TypeId × Value → H) :
    ReturnsInHanded {} Tryd.checked os 5 .any (fun w args => (Rows.fnExactChanTextSpec.pre enc Tryd.prog Tryd.f5 Rows.fnExactChanTextRow.domain false w args ∧ laidMetH Tryd.prog Rows.fnExactChanTextRow.laid w) ∧ sizedMet enc Tryd.prog Tryd.f5 (OpenSpec.ofChange Rows.fnExactChanTextSpec) false w args) (Rows.fnExactChanTextSpec.post enc Tryd.prog Tryd.f5 false true false false) := by
  refine returnsInHanded_of_change_and (C := Tryd.checked) (X := fun w _ => laidMetH Tryd.prog Rows.fnExactChanTextRow.laid w) (fun _ _ _ hh h => h.of_heap hh) own started (by kernel_rfl) Tryd.func5
    (ChangeSpec.witness_shaped (enc := enc) (C := Tryd.checked) (os := os) (X := fun w _ => laidMetH Tryd.prog Rows.fnExactChanTextRow.laid w) false (World.laidAll Tryd.prog os Rows.fnExactChanTextRow.laid) #[.agg #[.int .i64 0, .slice none 0 0, .bool false]] 8 (World.laidAll_os _ _ _)
      (World.shaped_of_ZipB (by kernel_rfl) (by kernel_rfl)) (by kernel_rfl) (by kernel_rfl) (by kernel_rfl)
      (by rw [MakeChecks.laidMetH_plain _ _ _ (by kernel_rfl)]; exact laidMet_laidAll _ (by kernel_rfl) (by kernel_rfl))) ?_
  intro W base args ds gs before hval0 hW hcnd _ hL _
  have hval : ∀ (j : Nat) t v, Tryd.f5.params[j]? = some t → args[j]? = some v → Value.okWide Tryd.prog W .any base t v := hval0
  have hW' := hW
  obtain ⟨p, q, hA0, hV, rfl, hfz, hnd⟩ := hW
  have hA : DataW.TrodAll enc Tryd.prog W 0 (fun _ => true) true Tryd.f5.params.toList args.toList ds p := hA0
  rw [Tryd.params5] at hA hval
  obtain ⟨v0, vs0, d0, ds0, p0, q0, hargs, rfl, rfl, h0, r0⟩ := trodAll_cons hA
  obtain ⟨rfl, rfl, rfl⟩ := trodAll_nil r0
  obtain rfl : args = #[v0] := by cases args; simp_all
  obtain ⟨rfl, rfl⟩ := trodVars_none hV
  have k0 := h0
  have lt0 : ∀ x ∈ p0, x.block < W.heap.size := by obtain ⟨m, hm⟩ := k0; exact DataW.trod_lt m _ _ _ hm
  obtain ⟨y0, cs0, rfl, hK0, ok0⟩ := oplaws_Chan_flat.at_struct Tryd.underlying37 (hval 0 37 v0 rfl rfl) h0
  obtain ⟨_, _, rfl, rfl, ⟨_, _, rfl, ⟨A0_1, c0_1, rfl, l0_1, g0_1⟩, rfl⟩⟩ := hK0
  clear hA0 hval0 hval hA
  obtain ⟨k, hk⟩ := Pure.FnExactChanText (y0.1) (y0.2.1) (y0.2.2) ok0
  refine (PFnExactChanText.laws_FnExactChanText.calls k (y0.1) A0_1 c0_1 (y0.2.1) (y0.2.2) true W g0_1 l0_1 hk (Tab.of_laid hL)).mono fun e W' ⟨he, bel⟩ => ?_
  subst he
  exact ⟨_, rfl, _, _, _, [], _, [], hW', trodAll_mk1 (shut_bool Tryd.underlying4 _), (trodAll_cons_mk (Below.trod laidOut (by kernel_rfl) (of_decide_eq_true (by kernel_rfl)) k0 bel lt0) trodAll_mk0), rfl, bel.frame _, fun h => by cases h⟩
theorem over : Rows.fnExactChanTextRow.holds Tryd.pinned (OpenSpec.ofChange Rows.fnExactChanTextSpec) :=
  OpenClaim.holds_of_wide 5 Tryd.f5 rfl rfl rfl rfl rfl rfl rfl ⟨rfl, rfl, rfl, rfl, rfl⟩ rfl rfl rfl rfl rfl (by kernel_rfl) Tryd.func5 (by kernel_rfl)
    (of_decide_eq_true (by kernel_rfl)) (by unfold Func.isWrapper; first | (rw [if_pos (by decide +kernel)]; kernel_rfl) | (rw [if_neg (by decide +kernel)]; exact ⟨rfl, rfl⟩))
    (fun os started H enc _ => lifted os started H enc)
theorem card : Rows.FnExactChanTextCardSaid :=
  Claim7.holds_tied_plain_at .later [] [.data, .data, .data] true (true, "fb59c9a22328395658654221e60fa9c73eee30ca3c268f7b1e2226da0aebaadb") true
    over (fun _ h => by cases h) (by kernel_rfl) (fun _ h => by cases h) fnExactChanText_row_tie rfl ⟨rfl, rfl⟩ (by kernel_rfl) rfl
    (fun f fn hf hfn => by
      obtain rfl : f = 5 := Option.some.inj ((show Tryd.prog.funcNamed Tryd.f5.name = some 5 by kernel_rfl).symm.trans hf) |>.symm
      obtain rfl : fn = Tryd.f5 := (Option.some.inj (Tryd.func5.symm.trans hfn)).symm
      exact ⟨by kernel_rfl, fun j t ht => by
        rw [Tryd.params5] at ht
        have hm : t ∈ [37] := by simpa using Array.mem_of_getElem? ht
        have hall : ([37].all fun u => !Tryd.prog.wantsStandIn u) = true := by kernel_rfl
        exact (show Tryd.prog.wantsStandIn t = false by simpa using List.all_eq_true.1 hall t hm)⟩)
    (by kernel_rfl)
end Go.Proofs.YtkjfcmgpplapeaaDoor.fnExactChanText
namespace Go.Proofs.YtkjfcmgpplapeaaDoor
/-- The card, under a short name, for the claim. -/
theorem fnExactChanText_holds : Rows.FnExactChanTextCardSaid := fnExactChanText.card
#print axioms fnExactChanText_holds
end Go.Proofs.YtkjfcmgpplapeaaDoor
