/- The law FnExactTraceText holds for every input: it returns true, and each argument reads behind the call as it read before; the row's conditions are the form's own. -/
import Derived.Test.YtkjfcmgpplapeaaDoorRows
import Derived.Test.YtkjfcmgpplapeaaDoorPFnExactTraceTextx3
import Derived.Test.YtkjfcmgpplapeaaDoorPureFnExactTraceText
import Derived.Test.YtkjfcmgpplapeaaDoorRd
import Derived.WalkKit
import Derived.ProofKit
import Derived.OpenShut
import Derived.ShutString
import Derived.ChangeOld
import Derived.Below
import Derived.SizedLaws
import Derived.LaidMore
import Derived.Lay
import Derived.Stop.Joined
import Derived.SevenTiedAt
import Derived.Test.YtkjfcmgpplapeaaDoorTabRow
import Derived.Test.YtkjfcmgpplapeaaDoorTie
import Derived.Test.YtkjfcmgpplapeaaDoorCards
namespace Go.Proofs.YtkjfcmgpplapeaaDoor.fnExactTraceText
open Go.ChangeShapes Go.WideShapes Go.ChangeAt Go.RowKit Go.Proofs.YtkjfcmgpplapeaaDoorW.PrintWords
set_option linter.unusedVariables false
set_option maxRecDepth 100000 in
theorem opint : Rd.Opens Tryd.prog 3 (Kd.int .i64) (fun n => (Lit.int .i64 n).wf = true) := Rd.Opens.int Tryd.underlying3
set_option maxRecDepth 100000 in
theorem oplaws_Note_flat : Rd.Opens Tryd.prog 92 (Kd.pair (Kd.int .i64) (Kd.int .i64)) (fun (y : Int × Int) => (((Lit.int .i64 y.1).wf = true) ∧ ((Lit.int .i64 y.2).wf = true))) := Rd.Opens.struct Tryd.underlying92 (by kernel_rfl) (Rd.OpensAt.cons (oka := (fun (y : Int) => ((Lit.int .i64 y).wf = true))) (okb := (fun (y : Int) => ((Lit.int .i64 y).wf = true))) rfl (by kernel_rfl) opint (Rd.OpensAt.one rfl (by kernel_rfl) opint))
set_option maxRecDepth 100000 in
theorem oplaws_Note : Rd.Opens Tryd.prog 92 PFnExactTraceText.k92 (fun (y : PFnExactTraceText.S92) => (((Lit.int .i64 y.f0).wf = true) ∧ ((Lit.int .i64 y.f1).wf = true))) := Rd.Opens.weaken (Rd.Opens.iso (fun y : PFnExactTraceText.S92 => (y.f0, y.f1)) (fun x => ⟨x.1, x.2⟩) (fun _ => rfl) oplaws_Note_flat) (fun _ h => h)
set_option maxRecDepth 100000 in
theorem op__laws_Note : Rd.Opens Tryd.prog 22 (Kd.slice 92 PFnExactTraceText.k92) (fun (y : (List PFnExactTraceText.S92)) => (y.length ≤ maxLen ∧ ∀ z ∈ y, (((Lit.int .i64 z.f0).wf = true) ∧ ((Lit.int .i64 z.f1).wf = true)))) := Rd.Opens.slice 92 Tryd.underlying22 (by kernel_rfl) oplaws_Note
theorem own : ownKnob Tryd.prog.godebug = none := by kernel_rfl
theorem laidOut : laidOutB Tryd.prog = true := by kernel_rfl
set_option maxHeartbeats 1000000 in
set_option maxRecDepth 100000 in
theorem lifted (os : Os) (started : os.Started) (H : Type) (enc : TypeId × Value → H) :
    ReturnsInHanded {} Tryd.checked os 3 .any (fun w args => (Rows.fnExactTraceTextSpec.pre enc Tryd.prog Tryd.f3 Rows.fnExactTraceTextRow.domain false w args ∧ laidMetH Tryd.prog Rows.fnExactTraceTextRow.laid w) ∧ sizedMet enc Tryd.prog Tryd.f3 (OpenSpec.ofChange Rows.fnExactTraceTextSpec) false w args) (Rows.fnExactTraceTextSpec.post enc Tryd.prog Tryd.f3 false true false false) := by
  refine returnsInHanded_of_change_and (C := Tryd.checked) (X := fun w _ => laidMetH Tryd.prog Rows.fnExactTraceTextRow.laid w) (fun _ _ _ hh h => h.of_heap hh) own started (by kernel_rfl) Tryd.func3
    (ChangeSpec.witness_shaped (enc := enc) (C := Tryd.checked) (os := os) (X := fun w _ => laidMetH Tryd.prog Rows.fnExactTraceTextRow.laid w) false (World.laidAll Tryd.prog os Rows.fnExactTraceTextRow.laid) #[.slice none 0 0] 8 (World.laidAll_os _ _ _)
      (World.shaped_of_ZipB (by kernel_rfl) (by kernel_rfl)) (by kernel_rfl) (by kernel_rfl) (by kernel_rfl)
      (by rw [MakeChecks.laidMetH_plain _ _ _ (by kernel_rfl)]; exact laidMet_laidAll _ (by kernel_rfl) (by kernel_rfl))) ?_
  intro W base args ds gs before hval0 hW hcnd _ hL _
  have hval : ∀ (j : Nat) t v, Tryd.f3.params[j]? = some t → args[j]? = some v → Value.okWide Tryd.prog W .any base t v := hval0
  have hW' := hW
  obtain ⟨p, q, hA0, hV, rfl, hfz, hnd⟩ := hW
  have hA : DataW.TrodAll enc Tryd.prog W 0 (fun _ => true) true Tryd.f3.params.toList args.toList ds p := hA0
  rw [Tryd.params3] at hA hval
  obtain ⟨v0, vs0, d0, ds0, p0, q0, hargs, rfl, rfl, h0, r0⟩ := trodAll_cons hA
  obtain ⟨rfl, rfl, rfl⟩ := trodAll_nil r0
  obtain rfl : args = #[v0] := by cases args; simp_all
  obtain ⟨rfl, rfl⟩ := trodVars_none hV
  have k0 := h0
  have lt0 : ∀ x ∈ p0, x.block < W.heap.size := by obtain ⟨m, hm⟩ := k0; exact DataW.trod_lt m _ _ _ hm
  obtain ⟨xs0, A0, c0, rfl, hc0, hr0, ok0⟩ := op__laws_Note.at_slice Tryd.underlying22 (hval 0 22 v0 rfl rfl) h0
  clear hA0 hval0 hval hA
  obtain ⟨k, hk⟩ := Pure.FnExactTraceText (xs0) ok0
  refine (PFnExactTraceText.laws_FnExactTraceText.calls k A0 c0 xs0 true W hr0 hc0 hk (Tab.of_laid hL)).mono fun e W' ⟨he, bel⟩ => ?_
  subst he
  exact ⟨_, rfl, _, _, _, [], _, [], hW', trodAll_mk1 (shut_bool Tryd.underlying4 _), (trodAll_cons_mk (Below.trod laidOut (by kernel_rfl) (of_decide_eq_true (by kernel_rfl)) k0 bel lt0) trodAll_mk0), rfl, bel.frame _, fun h => by cases h⟩
theorem over : Rows.fnExactTraceTextRow.holds Tryd.pinned (OpenSpec.ofChange Rows.fnExactTraceTextSpec) :=
  OpenClaim.holds_of_wide 3 Tryd.f3 rfl rfl rfl rfl rfl rfl rfl ⟨rfl, rfl, rfl, rfl, rfl⟩ rfl rfl rfl rfl rfl (by kernel_rfl) Tryd.func3 (by kernel_rfl)
    (of_decide_eq_true (by kernel_rfl)) (by unfold Func.isWrapper; first | (rw [if_pos (by decide +kernel)]; kernel_rfl) | (rw [if_neg (by decide +kernel)]; exact ⟨rfl, rfl⟩))
    (fun os started H enc _ => lifted os started H enc)
theorem card : Rows.FnExactTraceTextCardSaid :=
  Claim7.holds_tied_plain_at .later [] [.data, .data, .data] true (true, "fb59c9a22328395658654221e60fa9c73eee30ca3c268f7b1e2226da0aebaadb") true
    over (fun _ h => by cases h) (by kernel_rfl) (fun _ h => by cases h) fnExactTraceText_row_tie rfl ⟨rfl, rfl⟩ (by kernel_rfl) rfl
    (fun f fn hf hfn => by
      obtain rfl : f = 3 := Option.some.inj ((show Tryd.prog.funcNamed Tryd.f3.name = some 3 by kernel_rfl).symm.trans hf) |>.symm
      obtain rfl : fn = Tryd.f3 := (Option.some.inj (Tryd.func3.symm.trans hfn)).symm
      exact ⟨by kernel_rfl, fun j t ht => by
        rw [Tryd.params3] at ht
        have hm : t ∈ [22] := by simpa using Array.mem_of_getElem? ht
        have hall : ([22].all fun u => !Tryd.prog.wantsStandIn u) = true := by kernel_rfl
        exact (show Tryd.prog.wantsStandIn t = false by simpa using List.all_eq_true.1 hall t hm)⟩)
    (by kernel_rfl)
end Go.Proofs.YtkjfcmgpplapeaaDoor.fnExactTraceText
namespace Go.Proofs.YtkjfcmgpplapeaaDoor
/-- The card, under a short name, for the claim. -/
theorem fnExactTraceText_holds : Rows.FnExactTraceTextCardSaid := fnExactTraceText.card
#print axioms fnExactTraceText_holds
end Go.Proofs.YtkjfcmgpplapeaaDoor
