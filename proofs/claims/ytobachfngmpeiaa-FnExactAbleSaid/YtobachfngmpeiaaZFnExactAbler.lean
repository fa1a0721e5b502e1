/- The law FnExactAble holds for every input: it returns true, and each argument reads behind the call as it read before; the row's conditions are the form's own. -/
import Derived.Test.YtobachfngmpeiaaRows
import Derived.WalkKit
import Derived.ProofKit
import Derived.OpenShut
import Derived.ShutString
import Derived.ChangeOld
import Derived.Below
import Derived.SizedLaws
import Derived.Test.YtobachfngmpeiaaZFnExactAblea27
set_option maxRecDepth 100000
namespace Go.Proofs.Ytobachfngmpeiaa.fnExactAble
open Go.ChangeShapes Go.WideShapes Go.ChangeAt Go.RowKit Go.Proofs.YtobachfngmpeiaaW.PrintWords
set_option linter.unusedVariables false
theorem opint : Rd.Opens Try.prog 3 (Kd.int .i64) (fun n => (Lit.int .i64 n).wf = true) := Rd.Opens.int Try.underlying3
theorem op__int : Rd.Opens Try.prog 31 (Kd.slice 3 (Kd.int .i64)) (fun (y : (List Int)) => (y.length ≤ maxLen ∧ ∀ z ∈ y,((Lit.int .i64 z).wf = true))) := Rd.Opens.slice 3 Try.underlying31 (by kernel_rfl) opint
theorem oplaws_Ins_flat : Rd.Opens Try.prog 208 (Kd.pair (Kd.int .i64) (Kd.pair (Kd.int .i64) (Kd.pair (Kd.int .i64) (Kd.pair (Kd.int .i64) (Kd.int .i64))))) (fun (y : Int × Int × Int × Int × Int) => (((Lit.int .i64 y.1).wf = true) ∧ (((Lit.int .i64 y.2.1).wf = true) ∧ (((Lit.int .i64 y.2.2.1).wf = true) ∧ (((Lit.int .i64 y.2.2.2.1).wf = true) ∧ ((Lit.int .i64 y.2.2.2.2).wf = true)))))) := Rd.Opens.struct Try.underlying208 (by kernel_rfl) (Rd.OpensAt.cons (oka := (fun (y : Int) => ((Lit.int .i64 y).wf = true))) (okb := (fun (y : Int × Int × Int × Int) => (((Lit.int .i64 y.1).wf = true) ∧ (((Lit.int .i64 y.2.1).wf = true) ∧ (((Lit.int .i64 y.2.2.1).wf = true) ∧ ((Lit.int .i64 y.2.2.2).wf = true)))))) rfl (by kernel_rfl) opint (Rd.OpensAt.cons (oka := (fun (y : Int) => ((Lit.int .i64 y).wf = true))) (okb := (fun (y : Int × Int × Int) => (((Lit.int .i64 y.1).wf = true) ∧ (((Lit.int .i64 y.2.1).wf = true) ∧ ((Lit.int .i64 y.2.2).wf = true))))) rfl (by kernel_rfl) opint (Rd.OpensAt.cons (oka := (fun (y : Int) => ((Lit.int .i64 y).wf = true))) (okb := (fun (y : Int × Int) => (((Lit.int .i64 y.1).wf = true) ∧ ((Lit.int .i64 y.2).wf = true)))) rfl (by kernel_rfl) opint (Rd.OpensAt.cons (oka := (fun (y : Int) => ((Lit.int .i64 y).wf = true))) (okb := (fun (y : Int) => ((Lit.int .i64 y).wf = true))) rfl (by kernel_rfl) opint (Rd.OpensAt.one rfl (by kernel_rfl) opint)))))
theorem oplaws_Ins : Rd.Opens Try.prog 208 PFnExactAble.k208 (fun (y : PFnExactAble.S208) => (((Lit.int .i64 y.f0).wf = true) ∧ (((Lit.int .i64 y.f1).wf = true) ∧ (((Lit.int .i64 y.f2).wf = true) ∧ (((Lit.int .i64 y.f3).wf = true) ∧ ((Lit.int .i64 y.f4).wf = true)))))) := Rd.Opens.weaken (Rd.Opens.iso (fun y : PFnExactAble.S208 => (y.f0,y.f1,y.f2,y.f3,y.f4)) (fun x => ⟨x.1,x.2.1,x.2.2.1,x.2.2.2.1,x.2.2.2.2⟩) (fun _ => rfl) oplaws_Ins_flat) (fun _ h => h)
theorem op__laws_Ins : Rd.Opens Try.prog 160 (Kd.slice 208 PFnExactAble.k208) (fun (y : (List PFnExactAble.S208)) => (y.length ≤ maxLen ∧ ∀ z ∈ y,(((Lit.int .i64 z.f0).wf = true) ∧ (((Lit.int .i64 z.f1).wf = true) ∧ (((Lit.int .i64 z.f2).wf = true) ∧ (((Lit.int .i64 z.f3).wf = true) ∧ ((Lit.int .i64 z.f4).wf = true))))))) := Rd.Opens.slice 208 Try.underlying160 (by kernel_rfl) oplaws_Ins
theorem op____laws_Ins : Rd.Opens Try.prog 36 (Kd.slice 160 (Kd.slice 208 PFnExactAble.k208)) (fun (y : (List (List PFnExactAble.S208))) => (y.length ≤ maxLen ∧ ∀ z ∈ y,(z.length ≤ maxLen ∧ ∀ z' ∈ z,(((Lit.int .i64 z'.f0).wf = true) ∧ (((Lit.int .i64 z'.f1).wf = true) ∧ (((Lit.int .i64 z'.f2).wf = true) ∧ (((Lit.int .i64 z'.f3).wf = true) ∧ ((Lit.int .i64 z'.f4).wf = true)))))))) := Rd.Opens.slice 160 Try.underlying36 (by kernel_rfl) op__laws_Ins
theorem oplaws_Prog_flat : Rd.Opens Try.prog 38 (Kd.pair (Kd.slice 3 (Kd.int .i64)) (Kd.slice 160 (Kd.slice 208 PFnExactAble.k208))) (fun (y : (List Int) × (List (List PFnExactAble.S208))) => ((y.1.length ≤ maxLen ∧ ∀ z ∈ y.1,((Lit.int .i64 z).wf = true)) ∧ (y.2.length ≤ maxLen ∧ ∀ z ∈ y.2,(z.length ≤ maxLen ∧ ∀ z' ∈ z,(((Lit.int .i64 z'.f0).wf = true) ∧ (((Lit.int .i64 z'.f1).wf = true) ∧ (((Lit.int .i64 z'.f2).wf = true) ∧ (((Lit.int .i64 z'.f3).wf = true) ∧ ((Lit.int .i64 z'.f4).wf = true))))))))) := Rd.Opens.struct Try.underlying38 (by kernel_rfl) (Rd.OpensAt.cons (oka := (fun (y : (List Int)) => (y.length ≤ maxLen ∧ ∀ z ∈ y,((Lit.int .i64 z).wf = true)))) (okb := (fun (y : (List (List PFnExactAble.S208))) => (y.length ≤ maxLen ∧ ∀ z ∈ y,(z.length ≤ maxLen ∧ ∀ z' ∈ z,(((Lit.int .i64 z'.f0).wf = true) ∧ (((Lit.int .i64 z'.f1).wf = true) ∧ (((Lit.int .i64 z'.f2).wf = true) ∧ (((Lit.int .i64 z'.f3).wf = true) ∧ ((Lit.int .i64 z'.f4).wf = true))))))))) rfl (by kernel_rfl) op__int (Rd.OpensAt.one rfl (by kernel_rfl) op____laws_Ins))
theorem oplaws_Thread_flat : Rd.Opens Try.prog 184 (Kd.pair (Kd.int .i64) (Kd.pair (Kd.slice 3 (Kd.int .i64)) (Kd.int .i64))) (fun (y : Int × (List Int) × Int) => (((Lit.int .i64 y.1).wf = true) ∧ ((y.2.1.length ≤ maxLen ∧ ∀ z ∈ y.2.1,((Lit.int .i64 z).wf = true)) ∧ ((Lit.int .i64 y.2.2).wf = true)))) := Rd.Opens.struct Try.underlying184 (by kernel_rfl) (Rd.OpensAt.cons (oka := (fun (y : Int) => ((Lit.int .i64 y).wf = true))) (okb := (fun (y : (List Int) × Int) => ((y.1.length ≤ maxLen ∧ ∀ z ∈ y.1,((Lit.int .i64 z).wf = true)) ∧ ((Lit.int .i64 y.2).wf = true)))) rfl (by kernel_rfl) opint (Rd.OpensAt.cons (oka := (fun (y : (List Int)) => (y.length ≤ maxLen ∧ ∀ z ∈ y,((Lit.int .i64 z).wf = true)))) (okb := (fun (y : Int) => ((Lit.int .i64 y).wf = true))) rfl (by kernel_rfl) op__int (Rd.OpensAt.one rfl (by kernel_rfl) opint)))
theorem oplaws_Thread : Rd.Opens Try.prog 184 PFnExactAble.k184 (fun (y : PFnExactAble.S184) => (((Lit.int .i64 y.f0).wf = true) ∧ ((y.f1.length ≤ maxLen ∧ ∀ z ∈ y.f1,((Lit.int .i64 z).wf = true)) ∧ ((Lit.int .i64 y.f2).wf = true)))) := Rd.Opens.weaken (Rd.Opens.iso (fun y : PFnExactAble.S184 => (y.f0,y.f1,y.f2)) (fun x => ⟨x.1,x.2.1,x.2.2⟩) (fun _ => rfl) oplaws_Thread_flat) (fun _ h => h)
theorem op__laws_Thread : Rd.Opens Try.prog 68 (Kd.slice 184 PFnExactAble.k184) (fun (y : (List PFnExactAble.S184)) => (y.length ≤ maxLen ∧ ∀ z ∈ y,(((Lit.int .i64 z.f0).wf = true) ∧ ((z.f1.length ≤ maxLen ∧ ∀ z' ∈ z.f1,((Lit.int .i64 z').wf = true)) ∧ ((Lit.int .i64 z.f2).wf = true))))) := Rd.Opens.slice 184 Try.underlying68 (by kernel_rfl) oplaws_Thread
theorem opbool : Rd.Opens Try.prog 4 Kd.bool (fun _ => True) := Rd.Opens.bool Try.underlying4
theorem oplaws_Chan_flat : Rd.Opens Try.prog 186 (Kd.pair (Kd.int .i64) (Kd.pair (Kd.slice 3 (Kd.int .i64)) Kd.bool)) (fun (y : Int × (List Int) × Bool) => (((Lit.int .i64 y.1).wf = true) ∧ ((y.2.1.length ≤ maxLen ∧ ∀ z ∈ y.2.1,((Lit.int .i64 z).wf = true)) ∧ True))) := Rd.Opens.struct Try.underlying186 (by kernel_rfl) (Rd.OpensAt.cons (oka := (fun (y : Int) => ((Lit.int .i64 y).wf = true))) (okb := (fun (y : (List Int) × Bool) => ((y.1.length ≤ maxLen ∧ ∀ z ∈ y.1,((Lit.int .i64 z).wf = true)) ∧ True))) rfl (by kernel_rfl) opint (Rd.OpensAt.cons (oka := (fun (y : (List Int)) => (y.length ≤ maxLen ∧ ∀ z ∈ y,((Lit.int .i64 z).wf = true)))) (okb := (fun (y : Bool) => True)) rfl (by kernel_rfl) op__int (Rd.OpensAt.one rfl (by kernel_rfl) opbool)))
theorem oplaws_Chan : Rd.Opens Try.prog 186 PFnExactAble.k186 (fun (y : PFnExactAble.S186) => (((Lit.int .i64 y.f0).wf = true) ∧ ((y.f1.length ≤ maxLen ∧ ∀ z ∈ y.f1,((Lit.int .i64 z).wf = true)) ∧ True))) := Rd.Opens.weaken (Rd.Opens.iso (fun y : PFnExactAble.S186 => (y.f0,y.f1,y.f2)) (fun x => ⟨x.1,x.2.1,x.2.2⟩) (fun _ => rfl) oplaws_Chan_flat) (fun _ h => h)
theorem op__laws_Chan : Rd.Opens Try.prog 69 (Kd.slice 186 PFnExactAble.k186) (fun (y : (List PFnExactAble.S186)) => (y.length ≤ maxLen ∧ ∀ z ∈ y,(((Lit.int .i64 z.f0).wf = true) ∧ ((z.f1.length ≤ maxLen ∧ ∀ z' ∈ z.f1,((Lit.int .i64 z').wf = true)) ∧ True)))) := Rd.Opens.slice 186 Try.underlying69 (by kernel_rfl) oplaws_Chan
theorem oplaws_Note_flat : Rd.Opens Try.prog 190 (Kd.pair (Kd.int .i64) (Kd.int .i64)) (fun (y : Int × Int) => (((Lit.int .i64 y.1).wf = true) ∧ ((Lit.int .i64 y.2).wf = true))) := Rd.Opens.struct Try.underlying190 (by kernel_rfl) (Rd.OpensAt.cons (oka := (fun (y : Int) => ((Lit.int .i64 y).wf = true))) (okb := (fun (y : Int) => ((Lit.int .i64 y).wf = true))) rfl (by kernel_rfl) opint (Rd.OpensAt.one rfl (by kernel_rfl) opint))
theorem oplaws_Note : Rd.Opens Try.prog 190 PFnExactAble.k190 (fun (y : PFnExactAble.S190) => (((Lit.int .i64 y.f0).wf = true) ∧ ((Lit.int .i64 y.f1).wf = true))) := Rd.Opens.weaken (Rd.Opens.iso (fun y : PFnExactAble.S190 => (y.f0,y.f1)) (fun x => ⟨x.1,x.2⟩) (fun _ => rfl) oplaws_Note_flat) (fun _ h => h)
theorem op__laws_Note : Rd.Opens Try.prog 70 (Kd.slice 190 PFnExactAble.k190) (fun (y : (List PFnExactAble.S190)) => (y.length ≤ maxLen ∧ ∀ z ∈ y,(((Lit.int .i64 z.f0).wf = true) ∧ ((Lit.int .i64 z.f1).wf = true)))) := Rd.Opens.slice 190 Try.underlying70 (by kernel_rfl) oplaws_Note
theorem oplaws_Source_flat : Rd.Opens Try.prog 72 (Kd.pair (Kd.slice 184 PFnExactAble.k184) (Kd.pair (Kd.slice 186 PFnExactAble.k186) (Kd.slice 190 PFnExactAble.k190))) (fun (y : (List PFnExactAble.S184) × (List PFnExactAble.S186) × (List PFnExactAble.S190)) => ((y.1.length ≤ maxLen ∧ ∀ z ∈ y.1,(((Lit.int .i64 z.f0).wf = true) ∧ ((z.f1.length ≤ maxLen ∧ ∀ z' ∈ z.f1,((Lit.int .i64 z').wf = true)) ∧ ((Lit.int .i64 z.f2).wf = true)))) ∧ ((y.2.1.length ≤ maxLen ∧ ∀ z ∈ y.2.1,(((Lit.int .i64 z.f0).wf = true) ∧ ((z.f1.length ≤ maxLen ∧ ∀ z' ∈ z.f1,((Lit.int .i64 z').wf = true)) ∧ True))) ∧ (y.2.2.length ≤ maxLen ∧ ∀ z ∈ y.2.2,(((Lit.int .i64 z.f0).wf = true) ∧ ((Lit.int .i64 z.f1).wf = true)))))) := Rd.Opens.struct Try.underlying72 (by kernel_rfl) (Rd.OpensAt.cons (oka := (fun (y : (List PFnExactAble.S184)) => (y.length ≤ maxLen ∧ ∀ z ∈ y,(((Lit.int .i64 z.f0).wf = true) ∧ ((z.f1.length ≤ maxLen ∧ ∀ z' ∈ z.f1,((Lit.int .i64 z').wf = true)) ∧ ((Lit.int .i64 z.f2).wf = true)))))) (okb := (fun (y : (List PFnExactAble.S186) × (List PFnExactAble.S190)) => ((y.1.length ≤ maxLen ∧ ∀ z ∈ y.1,(((Lit.int .i64 z.f0).wf = true) ∧ ((z.f1.length ≤ maxLen ∧ ∀ z' ∈ z.f1,((Lit.int .i64 z').wf = true)) ∧ True))) ∧ (y.2.length ≤ maxLen ∧ ∀ z ∈ y.2,(((Lit.int .i64 z.f0).wf = true) ∧ ((Lit.int .i64 z.f1).wf = true)))))) rfl (by kernel_rfl) op__laws_Thread (Rd.OpensAt.cons (oka := (fun (y : (List PFnExactAble.S186)) => (y.length ≤ maxLen ∧ ∀ z ∈ y,(((Lit.int .i64 z.f0).wf = true) ∧ ((z.f1.length ≤ maxLen ∧ ∀ z' ∈ z.f1,((Lit.int .i64 z').wf = true)) ∧ True))))) (okb := (fun (y : (List PFnExactAble.S190)) => (y.length ≤ maxLen ∧ ∀ z ∈ y,(((Lit.int .i64 z.f0).wf = true) ∧ ((Lit.int .i64 z.f1).wf = true))))) rfl (by kernel_rfl) op__laws_Chan (Rd.OpensAt.one rfl (by kernel_rfl) op__laws_Note)))
theorem own : ownKnob Try.prog.godebug = none := by kernel_rfl
theorem laidOut : laidOutB Try.prog = true := by kernel_rfl
set_option maxHeartbeats 1000000 in
theorem lifted (os : Os) (started : os.Started) (H : Type) (enc : TypeId × Value → H) :
    ReturnsInHanded {} Try.checked os 7 .any (Rows.fnExactAbleSpec.pre6 enc Try.prog Try.f7 Rows.fnExactAbleRow.domain false) (Rows.fnExactAbleSpec.post enc Try.prog Try.f7 false true false false) := by
  refine returnsInHanded_of_change_sized (C := Try.checked) own started (by kernel_rfl) Try.func7
    (ChangeSpec.witness6 (enc := enc) (C := Try.checked) false ⟨#[],#[.agg #[.slice none 0 0,.slice none 0 0],.agg #[.slice none 0 0,.slice none 0 0,.slice none 0 0]],[]⟩ 8 (by kernel_rfl) (by kernel_rfl) (by kernel_rfl) (by kernel_rfl)) ?_
  intro W base args ds gs before hval0 hW hcnd hsz0 _
  have hval : ∀ (j : Nat) t v,Try.f7.params[j]? = some t → args[j]? = some v → Value.okWide Try.prog W .any base t v := hval0
  have hW' := hW
  obtain ⟨p,q,hA0,hV,rfl,hfz,hnd⟩ := hW
  have hA : DataW.TrodAll enc Try.prog W 0 (fun _ => true) true Try.f7.params.toList args.toList ds p := hA0
  rw [Try.params7] at hA hval
  obtain ⟨v0,vs0,d0,ds0,p0,q0,hargs,rfl,rfl,h0,r0⟩ := trodAll_cons hA
  obtain ⟨v1,vs1,d1,ds1,p1,q1,rfl,rfl,rfl,h1,r1⟩ := trodAll_cons r0
  obtain ⟨rfl,rfl,rfl⟩ := trodAll_nil r1
  obtain rfl : args = #[v0,v1] := by cases args;simp_all
  obtain ⟨rfl,rfl⟩ := trodVars_none hV
  have k0 := h0
  have lt0 : ∀ x ∈ p0,x.block < W.heap.size := by obtain ⟨m,hm⟩ := k0;exact DataW.trod_lt m _ _ _ hm
  obtain ⟨y0,cs0,rfl,hK0,ok0⟩ := oplaws_Prog_flat.at_struct Try.underlying38 (hval 0 38 v0 rfl rfl) h0
  obtain ⟨_,_,rfl,⟨A0_0,c0_0,rfl,l0_0,g0_0⟩,⟨A0_1,c0_1,rfl,l0_1,g0_1⟩⟩ := hK0
  have k1 := h1
  have lt1 : ∀ x ∈ p1,x.block < W.heap.size := by obtain ⟨m,hm⟩ := k1;exact DataW.trod_lt m _ _ _ hm
  obtain ⟨y1,cs1,rfl,hK1,ok1⟩ := oplaws_Source_flat.at_struct Try.underlying72 (hval 1 72 v1 rfl rfl) h1
  obtain ⟨_,_,rfl,⟨A1_0,c1_0,rfl,l1_0,g1_0⟩,⟨_,_,rfl,⟨A1_1,c1_1,rfl,l1_1,g1_1⟩,⟨A1_2,c1_2,rfl,l1_2,g1_2⟩⟩⟩ := hK1
  clear hA0 hval0 hsz0 hval hA
  obtain ⟨k,hk⟩ := Pure.FnExactAble (y0.1) (y0.2) (y1.1) (y1.2.1) (y1.2.2) ok0 ok1
  refine (PFnExactAble.laws_FnExactAble.calls k A0_0 c0_0 (y0.1) A0_1 c0_1 (y0.2) A1_0 c1_0 (y1.1) A1_1 c1_1 (y1.2.1) A1_2 c1_2 (y1.2.2) true W g0_0 l0_0 g0_1 l0_1 g1_0 l1_0 g1_1 l1_1 g1_2 l1_2 hk rfl).mono fun e W' ⟨he,bel⟩ => ?_
  subst he
  exact ⟨_,rfl,_,_,_,[],_,[],hW',trodAll_mk1 (shut_bool Try.underlying4 _),(trodAll_cons_mk (Below.trod laidOut (by kernel_rfl) (of_decide_eq_true (by kernel_rfl)) k0 bel lt0) (trodAll_cons_mk (Below.trod laidOut (by kernel_rfl) (of_decide_eq_true (by kernel_rfl)) k1 bel lt1) trodAll_mk0)),rfl,bel.frame _,fun h => by cases h⟩
theorem over : Rows.fnExactAbleRow.holds Try.pinned (OpenSpec.ofChange Rows.fnExactAbleSpec) :=
  OpenClaim.holds_of_wide 7 Try.f7 rfl rfl rfl rfl rfl rfl rfl ⟨rfl,rfl,rfl,rfl,rfl⟩ rfl rfl rfl rfl rfl (by kernel_rfl) Try.func7 (by kernel_rfl)
    (of_decide_eq_true (by kernel_rfl)) (by unfold Func.isWrapper;first | (rw [if_pos (by decide +kernel)];kernel_rfl) | (rw [if_neg (by decide +kernel)];exact ⟨rfl,rfl⟩))
    (fun os started H enc _ => lifted os started H enc)
theorem proved : Rows.FnExactAbleSaid := over
end Go.Proofs.Ytobachfngmpeiaa.fnExactAble
namespace Go.Proofs.Ytobachfngmpeiaa
theorem fnExactAble_holds : Rows.FnExactAbleSaid := fnExactAble.proved
end Go.Proofs.Ytobachfngmpeiaa
