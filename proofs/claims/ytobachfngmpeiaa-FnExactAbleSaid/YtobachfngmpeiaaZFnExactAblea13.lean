/- Part of the proof of FnExactAble. -/
import Derived.Test.YtobachfngmpeiaaZFnExactAblea12
import Derived.Test.YtobachfngmpeiaaZFnExactAbles
namespace Go.Proofs.Ytobachfngmpeiaa.PFnExactAble
open Go.RowKit Go.Proofs.YtobachfngmpeiaaW.PrintWords Go.Proofs.YtobachfngmpeiaaW.PrintLast Go.Proofs.YtobachfngmpeiaaW.PrintMore
set_option linter.unusedVariables false
set_option linter.unusedSimpArgs false
structure Mine (w0 : World) (b n0 : Nat) (S PT PC PN : Nat → Prop) (W : World) (vT vC vN : Value) (ts : List S107) (cs : List S94) (ns : List S35) : Prop where
  T : Kd.S k107 107 W b PT vT ts
  C : Kd.S k94 94 W b PC vC cs
  N : Kd.R k35 35 W b PN vN ns
  B : Below b w0 W
  K : Kept w0 W S
  lt : ∀ k,PT k ∨ PC k ∨ PN k → k < n0 ∧ (S k ∨ w0.heap.size ≤ k)
  ap : ∀ k,PT k → ¬ PC k
  bn : b ≤ w0.heap.size
  wn : n0 ≤ W.heap.size
def setR (ts : List S107) (i q v : Int) : List S107 := ts.set i.toNat ⟨(rd_T107 ts i).f0,(rd_T107 ts i).f1.set q.toNat v,(rd_T107 ts i).f2⟩
def setA (ts : List S107) (i v : Int) : List S107 := ts.set i.toNat ⟨v,(rd_T107 ts i).f1,(rd_T107 ts i).f2⟩
def setS (ts : List S107) (i v : Int) : List S107 := ts.set i.toNat ⟨(rd_T107 ts i).f0,(rd_T107 ts i).f1,v⟩
theorem setR_len (ts : List S107) (i q v : Int) : (setR ts i q v).length = ts.length := List.length_set
theorem rd_set (ts : List S107) (i : Int) (x : S107) (h0 : 0 ≤ i) (h1 : i < (ts.length : Int)) : rd_T107 (ts.set i.toNat x) i = x := by
 unfold rd_T107
 rw [List.getD_eq_getElem?_getD,List.getElem?_set_self (by omega)]
 rfl
theorem setR_regs (ts : List S107) (i q v : Int) (h0 : 0 ≤ i) (h1 : i < (ts.length : Int)) : (rd_T107 (setR ts i q v) i).f1.length = (rd_T107 ts i).f1.length := by
 unfold setR
 rw [rd_set ts i _ h0 h1]
 exact List.length_set
namespace Mine
variable {w0 W W' : World} {b n0 : Nat} {S PT PC PN : Nat → Prop} {vT vC vN : Value} {ts : List S107} {cs : List S94} {ns : List S35}
theorem sz (M : Mine w0 b n0 S PT PC PN W vT vC vN ts cs ns) : w0.heap.size ≤ W.heap.size := M.K.1
theorem below (M : Mine w0 b n0 S PT PC PN W vT vC vN ts cs ns) (hb : Below W.heap.size W W') : Mine w0 b n0 S PT PC PN W' vT vC vN ts cs ns :=
 ⟨Kd.S_below M.T hb,Kd.S_below M.C hb,Kd.R_below M.N hb,Below.trans M.B (hb.mono (Nat.le_trans M.bn M.sz)),M.K.below hb,M.lt,M.ap,M.bn,Nat.le_trans M.wn hb.size⟩
theorem drewN (M : Mine w0 b n0 S PT PC PN W vT vC vN ts cs ns) (m : Nat) : Mine w0 b n0 S PT PC PN (W.drewN m) vT vC vN ts cs ns := M.below (pw_below_drewN (Below.refl _ _) m)
theorem drew (M : Mine w0 b n0 S PT PC PN W vT vC vN ts cs ns) : Mine w0 b n0 S PT PC PN W.drew vT vC vN ts cs ns := M.below (below_drew (Below.refl _ _))
theorem alloc (M : Mine w0 b n0 S PT PC PN W vT vC vN ts cs ns) (o : Obj) : Mine w0 b n0 S PT PC PN (W.alloc o) vT vC vN ts cs ns := M.below (below_alloc (Below.refl _ _) o)
theorem far (M : Mine w0 b n0 S PT PC PN W vT vC vN ts cs ns) {g j : Nat} (hg : ∀ k,PT k ∨ PC k ∨ PN k → k ≠ g) (h0 : w0.heap.size ≤ g) (u : Value) : Mine w0 b n0 S PT PC PN (W.setCell ⟨g,j,none⟩ u) vT vC vN ts cs ns :=
 ⟨Kd.S_far (p := ⟨g,j,none⟩) M.T (fun k hk => hg k (.inl hk)) u,Kd.S_far (p := ⟨g,j,none⟩) M.C (fun k hk => hg k (.inr (.inl hk))) u,
  Kd.R_far (p := ⟨g,j,none⟩) M.N (fun k hk => hg k (.inr (.inr hk))) u,M.B.setCell (p := ⟨g,j,none⟩) (Nat.le_trans M.bn h0) u,M.K.setCell (p := ⟨g,j,none⟩) (.inr h0) u,M.lt,M.ap,M.bn,by simpa [World.setCell] using M.wn⟩
theorem fresh (M : Mine w0 b n0 S PT PC PN W vT vC vN ts cs ns) {g : Nat} (hg : g = W.heap.size) : (∀ k,PT k ∨ PC k ∨ PN k → k ≠ g) ∧ w0.heap.size ≤ g :=
 ⟨fun k hk => by have h1 := (M.lt k hk).1;have h2 := M.wn;omega,by rw [hg];exact M.sz⟩
theorem enter (M : Mine w0 b n0 S PT PC PN W vT vC vN ts cs ns) : Mine W b n0 (fun k => PT k ∨ PC k ∨ PN k) PT PC PN W vT vC vN ts cs ns :=
 ⟨M.T,M.C,M.N,Below.refl _ _,Kept.refl _ _,fun k hk => ⟨(M.lt k hk).1,.inl hk⟩,M.ap,Nat.le_trans M.bn M.sz,M.wn⟩
theorem leave {n1 : Nat} {PT' PC' PN' : Nat → Prop} {vT' vC' vN' : Value} {ts' : List S107} {cs' : List S94} {ns' : List S35} (M : Mine w0 b n0 S PT PC PN W vT vC vN ts cs ns) (M' : Mine W b n1 (fun k => PT k ∨ PC k ∨ PN k) PT' PC' PN' W' vT' vC' vN' ts' cs' ns') :
  Mine w0 b n1 S PT' PC' PN' W' vT' vC' vN' ts' cs' ns' :=
 ⟨M'.T,M'.C,M'.N,Below.trans M.B M'.B,M.K.then_ M'.K (fun k hk => (M.lt k hk).2),fun k hk => ⟨(M'.lt k hk).1,(M'.lt k hk).2.elim (fun h => (M.lt k h).2) (fun h => .inr (Nat.le_trans M.sz h))⟩,M'.ap,M.bn,M'.wn⟩
theorem stays {n1 : Nat} {PT' PC' PN' : Nat → Prop} {vT' vC' vN' : Value} {ts' : List S107} {cs' : List S94} {ns' : List S35} (M' : Mine W b n1 (fun k => PT k ∨ PC k ∨ PN k) PT' PC' PN' W' vT' vC' vN' ts' cs' ns') {g : Nat} {o : Obj} (h : W.heap[g]? = some o) (hg : ∀ k,PT k ∨ PC k ∨ PN k → k ≠ g) :
  W'.heap[g]? = some o ∧ ∀ k,PT' k ∨ PC' k ∨ PN' k → k ≠ g :=
 ⟨blk_kept h M'.K (fun hk => hg g hk rfl),fun k hk e => (M'.lt k hk).2.elim (fun h2 => hg k h2 e) (fun h2 => by have := blk_lt h;omega)⟩
theorem cell_far {a : Addr} {v : Value} {g j : Nat} (h : W.cell? a = some v) (hne : a.block ≠ g) (u : Value) : (W.setCell ⟨g,j,none⟩ u).cell? a = some v :=
 cell_kept h (Kept.setCell (Kept.refl W (fun k => k = g)) (p := ⟨g,j,none⟩) (.inl rfl) u) hne
theorem headT {A : Option Addr} {n c : Nat} (M : Mine w0 b n0 S PT PC PN W (.slice A n c) vC vN ts cs ns) (i : Int) (h0 : 0 ≤ i) (h1 : i < (ts.length : Int)) : ∃ g,A = some ⟨g,0,none⟩ ∧ n = ts.length ∧ PT g ∧ (∃ cells,W.heap[g]? = some (.cells cells 107 (0,0))) := by
 obtain ⟨rfl,_,_⟩ := Kd.S_reads' M.T
 obtain ⟨g,cap,e,_,_,hc⟩ := Kd.S_form M.T (by omega)
 injection e with e _ _
 subst e
 exact ⟨g,rfl,rfl,(Kd.S_R M.T).1 g rfl,hc⟩
theorem headC {A : Option Addr} {n c : Nat} (M : Mine w0 b n0 S PT PC PN W vT (.slice A n c) vN ts cs ns) (i : Int) (h0 : 0 ≤ i) (h1 : i < (cs.length : Int)) : ∃ g,A = some ⟨g,0,none⟩ ∧ n = cs.length ∧ PC g ∧ (∃ cells,W.heap[g]? = some (.cells cells 94 (0,0))) := by
 obtain ⟨rfl,_,_⟩ := Kd.S_reads' M.C
 obtain ⟨g,cap,e,_,_,hc⟩ := Kd.S_form M.C (by omega)
 injection e with e _ _
 subst e
 exact ⟨g,rfl,rfl,(Kd.S_R M.C).1 g rfl,hc⟩
theorem atT {gT n c : Nat} (M : Mine w0 b n0 S PT PC PN W (.slice (some ⟨gT,0,none⟩) n c) vC vN ts cs ns) (i : Int) (h0 : 0 ≤ i) (h1 : i < (ts.length : Int)) :
  ∃ (A : Option Addr) (cr : Nat),W.cell? ⟨gT,i.toNat * 3,none⟩ = some (.int .i64 (rd_T107 ts i).f0) ∧ W.cell? ⟨gT,i.toNat * 3 + 1,none⟩ = some (.slice A (rd_T107 ts i).f1.length cr) ∧ W.cell? ⟨gT,i.toNat * 3 + 2,none⟩ = some (.int .i64 (rd_T107 ts i).f2) ∧
   (∀ j,W.frozen? ⟨gT,i.toNat * 3 + j,none⟩ = false) ∧ ∃ oki,Kd.R (Kd.int .i64) 3 W b oki (.slice A (rd_T107 ts i).f1.length cr) (rd_T107 ts i).f1 ∧ ∀ k,oki k → PT k ∧ k ≠ gT := by
 obtain ⟨en,_,_⟩ := Kd.S_reads' M.T
 obtain ⟨oki,ce,hcl,hM,hcc,hfr,hoki,hH⟩ := Kd.S_elem M.T z107 i h0 (by omega)
 obtain ⟨v1,rfl,hR⟩ := k107_openM hM
 obtain ⟨A,cr,rfl⟩ := Kd.R_slice hR
 exact ⟨A,cr,hcc 0 _ rfl,hcc 1 _ rfl,hcc 2 _ rfl,hfr,oki,hR,hoki⟩
theorem setT {gT n c : Nat} (M : Mine w0 b n0 S PT PC PN W (.slice (some ⟨gT,0,none⟩) n c) vC vN ts cs ns) (i : Int) (h0 : 0 ≤ i) (h1 : i < (ts.length : Int)) (v : Int) :
  Mine w0 b n0 S PT PC PN (W.setCell ⟨gT,i.toNat * 3,none⟩ (.int .i64 v)) (.slice (some ⟨gT,0,none⟩) n c) vC vN (setA ts i v) cs ns ∧
  Mine w0 b n0 S PT PC PN (W.setCell ⟨gT,i.toNat * 3 + 2,none⟩ (.int .i64 v)) (.slice (some ⟨gT,0,none⟩) n c) vC vN (setS ts i v) cs ns := by
 obtain ⟨en,_,_⟩ := Kd.S_reads' M.T
 have hin : i < (n : Int) := by omega
 have hgT : PT gT := (Kd.S_R M.T).1 gT rfl
 have hbT : b ≤ gT := Kd.S_base M.T gT rfl
 have fin : ∀ (j : Nat) (u : Value) (ts' : List S107),Kd.S k107 107 (W.setCell ⟨gT,j,none⟩ u) b PT (.slice (some ⟨gT,0,none⟩) n c) ts' → Mine w0 b n0 S PT PC PN (W.setCell ⟨gT,j,none⟩ u) (.slice (some ⟨gT,0,none⟩) n c) vC vN ts' cs ns := fun j u ts' hT =>
  have hg : W.grownBy (W.setCell ⟨gT,j,none⟩ u) (Value.slice (some ⟨gT,0,none⟩) n c).ownBlock := ⟨rfl,rfl,rfl,by simp [World.setCell],fun k _ hk => heap_setCell_other W ⟨gT,j,none⟩ k _ (fun e => hk (by rw [e];rfl))⟩
  ⟨hT,Kd.S_over' (v := .slice (some ⟨gT,0,none⟩) n c) M.C (Kd.S_typed M.T) (by decide) hg,Kd.R_over' (v := .slice (some ⟨gT,0,none⟩) n c) M.N (Kd.S_typed M.T) (by decide) hg,M.B.setCell (p := ⟨gT,j,none⟩) hbT u,M.K.setCell (p := ⟨gT,j,none⟩) ((M.lt gT (.inl hgT)).2) u,M.lt,M.ap,M.bn,by simpa [World.setCell] using M.wn⟩
 have hS0 : Kd.S k107 107 W b (fun k => PT k ∧ ¬ (fun _ => False) k) (.slice (some ⟨gT,0,none⟩) n c) ts := Kd.S_mono M.T (fun k hk => ⟨hk,fun h => h⟩)
 obtain ⟨oki,ce,hcl,hM,hcc,hfr,hoki,hH⟩ := Kd.S_elem hS0 z107 i h0 hin
 obtain ⟨v1,rfl,hR⟩ := k107_openM hM
 constructor
 ·refine fin _ _ _ ?_
  exact (Kd.S_seg (okg := fun _ => False) (okp := oki) hH h0 hin (seg := [.int .i64 v]) (j := 0) (show 0 + 1 ≤ 3 by decide) (x' := (⟨v,(rd_T107 ts i).f1,(rd_T107 ts i).f2⟩ : S107)) (k107_mkM W b oki (⟨v,(rd_T107 ts i).f1,(rd_T107 ts i).f2⟩ : S107) hR) (fun _ hk => .inl hk) (fun k hk => hk.elim)).1
 ·refine fin _ _ _ ?_
  exact (Kd.S_seg (okg := fun _ => False) (okp := oki) hH h0 hin (seg := [.int .i64 v]) (j := 2) (show 2 + 1 ≤ 3 by decide) (x' := (⟨(rd_T107 ts i).f0,(rd_T107 ts i).f1,v⟩ : S107)) (k107_mkM W b oki (⟨(rd_T107 ts i).f0,(rd_T107 ts i).f1,v⟩ : S107) hR) (fun _ hk => .inl hk) (fun k hk => hk.elim)).1
theorem setReg {gT n c gR nr cr : Nat} (M : Mine w0 b n0 S PT PC PN W (.slice (some ⟨gT,0,none⟩) n c) vC vN ts cs ns) (i : Int) (h0 : 0 ≤ i) (h1 : i < (ts.length : Int)) (hc : W.cell? ⟨gT,i.toNat * 3 + 1,none⟩ = some (.slice (some ⟨gR,0,none⟩) nr cr)) (q : Int) (q0 : 0 ≤ q) (q1 : q < ((rd_T107 ts i).f1.length : Int)) (v : Int) :
  nr = (rd_T107 ts i).f1.length ∧ PT gR ∧ gR ≠ gT ∧ W.cell? ⟨gR,q.toNat,none⟩ = some (.int .i64 (rd (rd_T107 ts i).f1 q)) ∧ W.frozen? ⟨gR,q.toNat,none⟩ = false ∧ (∃ cells,W.heap[gR]? = some (.cells cells 3 (0,0))) ∧
  Mine w0 b n0 S PT PC PN (W.setCell ⟨gR,q.toNat,none⟩ (.int .i64 v)) (.slice (some ⟨gT,0,none⟩) n c) vC vN (setR ts i q v) cs ns := by
 obtain ⟨en,_,_⟩ := Kd.S_reads' M.T
 have hin : i < (n : Int) := by omega
 obtain ⟨oki,ce,hcl,hM,hcc,hoki,hback⟩ := Kd.S_borrow M.T z107 i h0 hin
 obtain ⟨v1,rfl,hR⟩ := k107_openM hM
 have hc1 := hcc 1 _ rfl
 rw [add_plain] at hc1
 have e1 : (Value.slice (some ⟨gR,0,none⟩) nr cr) = v1 := Option.some.inj (hc.symm.trans hc1)
 subst e1
 obtain ⟨enr,_,_⟩ := Kd.R_reads' hR
 subst enr
 obtain ⟨hu,hf⟩ := Kd.R_celln 0 hR q q0 q1
 obtain ⟨hR2,hg2⟩ := Kd.R_putg hR q v
 have hoR : oki gR := hR.1 gR rfl
 have hbR : b ≤ gR := Kd.R_base hR gR rfl
 have hty := Kd.R_typed hR gR rfl
 refine ⟨rfl,(hoki gR hoR).1,fun e => (hoki gR hoR).2 (by rw [e];rfl),hu,hf,hty,?_⟩
 have hlt := M.lt gR (.inl (hoki gR hoR).1)
 refine ⟨hback hg2 (fun k e => by injection e with e;subst e;exact hoR) (k107_mkM _ _ _ (⟨(rd_T107 ts i).f0,(rd_T107 ts i).f1.set q.toNat v,(rd_T107 ts i).f2⟩ : S107) hR2),Kd.S_far (p := ⟨gR,q.toNat,none⟩) M.C (fun k hk e => M.ap gR (hoki gR hoR).1 ((show k = gR from e) ▸ hk)) _,
  ?_,M.B.setCell (p := ⟨gR,q.toNat,none⟩) hbR _,M.K.setCell (p := ⟨gR,q.toNat,none⟩) hlt.2 _,M.lt,M.ap,M.bn,by simpa [World.setCell] using M.wn⟩
 obtain ⟨cells,hcells⟩ := hty
 exact Kd.R_set M.N hcells (by decide) q.toNat _
theorem atC {gC n c : Nat} (M : Mine w0 b n0 S PT PC PN W vT (.slice (some ⟨gC,0,none⟩) n c) vN ts cs ns) (i : Int) (h0 : 0 ≤ i) (h1 : i < (cs.length : Int)) :
  ∃ (A : Option Addr) (cl : Nat),W.cell? ⟨gC,i.toNat * 3,none⟩ = some (.int .i64 (rd_T94 cs i).f0) ∧ W.cell? ⟨gC,i.toNat * 3 + 1,none⟩ = some (.slice A (rd_T94 cs i).f1.length cl) ∧ W.cell? ⟨gC,i.toNat * 3 + 2,none⟩ = some (.bool (rd_T94 cs i).f2) ∧
   (∀ j,W.frozen? ⟨gC,i.toNat * 3 + j,none⟩ = false) ∧ ∃ oki,Kd.R (Kd.int .i64) 3 W b oki (.slice A (rd_T94 cs i).f1.length cl) (rd_T94 cs i).f1 ∧ ∀ k,oki k → PC k ∧ k ≠ gC := by
 obtain ⟨en,_,_⟩ := Kd.S_reads' M.C
 obtain ⟨oki,ce,hcl,hM,hcc,hfr,hoki,hH⟩ := Kd.S_elem M.C z94 i h0 (by omega)
 obtain ⟨v1,rfl,hR⟩ := k94_openM hM
 obtain ⟨A,cr,rfl⟩ := Kd.R_slice hR
 exact ⟨A,cr,hcc 0 _ rfl,hcc 1 _ rfl,hcc 2 _ rfl,hfr,oki,hR,hoki⟩
theorem readC {gC n c m cl : Nat} {A : Option Addr} (M : Mine w0 b n0 S PT PC PN W vT (.slice (some ⟨gC,0,none⟩) n c) vN ts cs ns) (i : Int) (h0 : 0 ≤ i) (h1 : i < (cs.length : Int)) (hc : W.cell? ⟨gC,i.toNat * 3 + 1,none⟩ = some (.slice A m cl)) :
  (rd_T94 cs i).f1.length ≤ cl ∧ Kd.C (Kd.int .i64) W A (rd_T94 cs i).f1.length (rd_T94 cs i).f1 := by
 obtain ⟨A',cl',-,h2,-,-,oki,hR,-⟩ := M.atC i h0 h1
 have e := Option.some.inj (hc.symm.trans h2)
 injection e with e1 e2 e3
 subst e1 e3
 exact (Kd.R_reads' hR).2
theorem setC {gC n c : Nat} {A : Option Addr} {cl : Nat} {x : S94} (M : Mine w0 b n0 S PT PC PN W vT (.slice (some ⟨gC,0,none⟩) n c) vN ts cs ns) (i : Int) (h0 : 0 ≤ i) (h1 : i < (cs.length : Int))
  {okl : Nat → Prop} (hL : Kd.R (Kd.int .i64) 3 W b okl (.slice A x.f1.length cl) x.f1) (hokl : ∀ k,okl k → n0 ≤ k ∧ w0.heap.size ≤ k) :
  Mine w0 b W.heap.size S PT (fun k => PC k ∨ (okl k ∧ k < W.heap.size)) PN (((W.setCell ⟨gC,i.toNat * 3,none⟩ (.int .i64 x.f0)).setCell ⟨gC,i.toNat * 3 + 1,none⟩ (.slice A x.f1.length cl)).setCell ⟨gC,i.toNat * 3 + 2,none⟩ (.bool x.f2)) vT (.slice (some ⟨gC,0,none⟩) n c) vN ts (cs.set i.toNat x) ns ∧
  W.grownBy (((W.setCell ⟨gC,i.toNat * 3,none⟩ (.int .i64 x.f0)).setCell ⟨gC,i.toNat * 3 + 1,none⟩ (.slice A x.f1.length cl)).setCell ⟨gC,i.toNat * 3 + 2,none⟩ (.bool x.f2)) (some gC) := by
 obtain ⟨en,_,_⟩ := Kd.S_reads' M.C
 have hin : i < (n : Int) := by omega
 have hgC : PC gC := (Kd.S_R M.C).1 gC rfl
 have hbC : b ≤ gC := Kd.S_base M.C gC rfl
 have hlC := M.lt gC (.inr (.inl hgC))
 have hL2 : Kd.R (Kd.int .i64) 3 W b (fun k => okl k ∧ k < W.heap.size) (.slice A x.f1.length cl) x.f1 := Kd.R_mono (Kd.R_bound hL) (fun k hk => ⟨hk.1,hk.2.2.1⟩)
 have hS0 : Kd.S k94 94 W b (fun k => (PC k ∨ (okl k ∧ k < W.heap.size)) ∧ ¬ (fun k => okl k ∧ k < W.heap.size) k) (.slice (some ⟨gC,0,none⟩) n c) cs := Kd.S_mono M.C (fun k hk => ⟨.inl hk,fun h => by have h1 := (M.lt k (.inr (.inl hk))).1;have h2 := (hokl k h.1).1;omega⟩)
 obtain ⟨oki,ce,hcl,hM,hcc,hfr,hoki,hH⟩ := Kd.S_elem hS0 z94 i h0 hin
 obtain ⟨v1,rfl,hR⟩ := k94_openM hM
 obtain ⟨hS,hg⟩ := Kd.S_seg (okg := fun k => okl k ∧ k < W.heap.size) (okp := fun k => okl k ∧ k < W.heap.size) hH h0 hin (seg := [.int .i64 x.f0,.slice A x.f1.length cl,.bool x.f2]) (j := 0) (show 0 + 3 ≤ 3 by decide) (x' := x) (k94_mkM W b _ x hL2) (fun _ hk => .inr hk) (fun k hk => ⟨.inr hk,fun e => by have h2 := (hokl k hk.1).1;omega⟩)
 refine ⟨⟨Kd.S_over' (v := .slice (some ⟨gC,0,none⟩) n c) M.T (Kd.S_typed M.C) (by decide) hg,hS,Kd.R_over' (v := .slice (some ⟨gC,0,none⟩) n c) M.N (Kd.S_typed M.C) (by decide) hg,
  ((M.B.setCell (p := ⟨gC,i.toNat * 3,none⟩) hbC _).setCell (p := ⟨gC,i.toNat * 3 + 1,none⟩) hbC _).setCell (p := ⟨gC,i.toNat * 3 + 2,none⟩) hbC _,
  ((M.K.setCell (p := ⟨gC,i.toNat * 3,none⟩) hlC.2 _).setCell (p := ⟨gC,i.toNat * 3 + 1,none⟩) hlC.2 _).setCell (p := ⟨gC,i.toNat * 3 + 2,none⟩) hlC.2 _,
  fun k hk => ?_,fun k hk h => ?_,M.bn,by simp [World.setCell]⟩,hg⟩
 ·rcases hk with hk | (hk | hk) | hk
  ·exact ⟨Nat.lt_of_lt_of_le (M.lt k (.inl hk)).1 M.wn,(M.lt k (.inl hk)).2⟩
  ·exact ⟨Nat.lt_of_lt_of_le (M.lt k (.inr (.inl hk))).1 M.wn,(M.lt k (.inr (.inl hk))).2⟩
  ·exact ⟨hk.2,.inr (hokl k hk.1).2⟩
  ·exact ⟨Nat.lt_of_lt_of_le (M.lt k (.inr (.inr hk))).1 M.wn,(M.lt k (.inr (.inr hk))).2⟩
 ·rcases h with h | h
  ·exact M.ap k hk h
  ·have h1 := (M.lt k (.inl hk)).1
   have h2 := (hokl k h.1).1
   omega
end Mine
theorem cel2 {W : World} {g t : Nat} {a b : Value} (h : W.heap[g]? = some (.cells #[a,b] t (0,0))) : W.cell? ⟨g,0,none⟩ = some a ∧ W.cell? ⟨g,1,none⟩ = some b ∧ W.frozen? ⟨g,0,none⟩ = false ∧ W.frozen? ⟨g,1,none⟩ = false := ⟨(blk_cell h 0).trans rfl,(blk_cell h 1).trans rfl,blk_frozen h 0,blk_frozen h 1⟩
theorem cel3 {W : World} {g t : Nat} {a b c : Value} (h : W.heap[g]? = some (.cells #[a,b,c] t (0,0))) : W.cell? ⟨g,0,none⟩ = some a ∧ W.cell? ⟨g,1,none⟩ = some b ∧ W.cell? ⟨g,2,none⟩ = some c ∧ W.frozen? ⟨g,0,none⟩ = false ∧ W.frozen? ⟨g,1,none⟩ = false ∧ W.frozen? ⟨g,2,none⟩ = false := ⟨(blk_cell h 0).trans rfl,(blk_cell h 1).trans rfl,(blk_cell h 2).trans rfl,blk_frozen h 0,blk_frozen h 1,blk_frozen h 2⟩
theorem cel5 {W : World} {g t : Nat} {a b c d e : Value} (h : W.heap[g]? = some (.cells #[a,b,c,d,e] t (0,0))) : W.cell? ⟨g,0,none⟩ = some a ∧ W.cell? ⟨g,1,none⟩ = some b ∧ W.cell? ⟨g,2,none⟩ = some c ∧ W.cell? ⟨g,3,none⟩ = some d ∧ W.cell? ⟨g,4,none⟩ = some e ∧ W.frozen? ⟨g,0,none⟩ = false ∧ W.frozen? ⟨g,1,none⟩ = false ∧ W.frozen? ⟨g,2,none⟩ = false ∧ W.frozen? ⟨g,3,none⟩ = false ∧ W.frozen? ⟨g,4,none⟩ = false := ⟨(blk_cell h 0).trans rfl,(blk_cell h 1).trans rfl,(blk_cell h 2).trans rfl,(blk_cell h 3).trans rfl,(blk_cell h 4).trans rfl,blk_frozen h 0,blk_frozen h 1,blk_frozen h 2,blk_frozen h 3,blk_frozen h 4⟩
theorem put3 {W : World} {g t : Nat} {a b c : Value} (h : W.heap[g]? = some (.cells #[a,b,c] t (0,0))) (x y z : Value) : (((W.setCell ⟨g,0,none⟩ x).setCell ⟨g,1,none⟩ y).setCell ⟨g,2,none⟩ z).heap[g]? = some (.cells #[x,y,z] t (0,0)) := (blk_put (cs := #[x,y,c]) (blk_put (cs := #[x,b,c]) (blk_put (cs := #[a,b,c]) h 0 x rfl) 1 y rfl) 2 z rfl)
theorem put5 {W : World} {g t : Nat} {a b c d e : Value} (h : W.heap[g]? = some (.cells #[a,b,c,d,e] t (0,0))) (x y z u v : Value) : (((((W.setCell ⟨g,0,none⟩ x).setCell ⟨g,1,none⟩ y).setCell ⟨g,2,none⟩ z).setCell ⟨g,3,none⟩ u).setCell ⟨g,4,none⟩ v).heap[g]? = some (.cells #[x,y,z,u,v] t (0,0)) := (blk_put (cs := #[x,y,z,u,e]) (blk_put (cs := #[x,y,z,d,e]) (blk_put (cs := #[x,y,c,d,e]) (blk_put (cs := #[x,b,c,d,e]) (blk_put (cs := #[a,b,c,d,e]) h 0 x rfl) 1 y rfl) 2 z rfl) 3 u rfl) 4 v rfl)
theorem bfar3 {W : World} {q g : Nat} {ks : Array Value} {tt : Nat} (h : W.heap[q]? = some (.cells ks tt (0,0))) (hne : q ≠ g) (x y z : Value) : (((W.setCell ⟨g,0,none⟩ x).setCell ⟨g,1,none⟩ y).setCell ⟨g,2,none⟩ z).heap[q]? = some (.cells ks tt (0,0)) := (blk_far (p := ⟨g,2,none⟩) (blk_far (p := ⟨g,1,none⟩) (blk_far (p := ⟨g,0,none⟩) h hne x) hne y) hne z)
theorem cfar3 {W : World} {a : Addr} {o : Value} {g : Nat} (h : W.cell? a = some o) (hne : a.block ≠ g) (x y z : Value) : (((W.setCell ⟨g,0,none⟩ x).setCell ⟨g,1,none⟩ y).setCell ⟨g,2,none⟩ z).cell? a = some o := (Mine.cell_far (g := g) (j := 2) (Mine.cell_far (g := g) (j := 1) (Mine.cell_far (g := g) (j := 0) h hne x) hne y) hne z)
theorem mfar3 {w0 W : World} {b n0 : Nat} {S PT PC PN : Nat → Prop} {vT vC vN : Value} {ts : List S107} {cs : List S94} {ns : List S35} (M : Mine w0 b n0 S PT PC PN W vT vC vN ts cs ns) {g : Nat} (hg : ∀ k,PT k ∨ PC k ∨ PN k → k ≠ g) (h0 : w0.heap.size ≤ g) (x y z : Value) : Mine w0 b n0 S PT PC PN (((W.setCell ⟨g,0,none⟩ x).setCell ⟨g,1,none⟩ y).setCell ⟨g,2,none⟩ z) vT vC vN ts cs ns := (Mine.far (j := 2) (Mine.far (j := 1) (Mine.far (j := 0) M hg h0 x) hg h0 y) hg h0 z)
theorem bfar5 {W : World} {q g : Nat} {ks : Array Value} {tt : Nat} (h : W.heap[q]? = some (.cells ks tt (0,0))) (hne : q ≠ g) (x y z u v : Value) : (((((W.setCell ⟨g,0,none⟩ x).setCell ⟨g,1,none⟩ y).setCell ⟨g,2,none⟩ z).setCell ⟨g,3,none⟩ u).setCell ⟨g,4,none⟩ v).heap[q]? = some (.cells ks tt (0,0)) := (blk_far (p := ⟨g,4,none⟩) (blk_far (p := ⟨g,3,none⟩) (blk_far (p := ⟨g,2,none⟩) (blk_far (p := ⟨g,1,none⟩) (blk_far (p := ⟨g,0,none⟩) h hne x) hne y) hne z) hne u) hne v)
theorem cfar5 {W : World} {a : Addr} {o : Value} {g : Nat} (h : W.cell? a = some o) (hne : a.block ≠ g) (x y z u v : Value) : (((((W.setCell ⟨g,0,none⟩ x).setCell ⟨g,1,none⟩ y).setCell ⟨g,2,none⟩ z).setCell ⟨g,3,none⟩ u).setCell ⟨g,4,none⟩ v).cell? a = some o := (Mine.cell_far (g := g) (j := 4) (Mine.cell_far (g := g) (j := 3) (Mine.cell_far (g := g) (j := 2) (Mine.cell_far (g := g) (j := 1) (Mine.cell_far (g := g) (j := 0) h hne x) hne y) hne z) hne u) hne v)
theorem mfar5 {w0 W : World} {b n0 : Nat} {S PT PC PN : Nat → Prop} {vT vC vN : Value} {ts : List S107} {cs : List S94} {ns : List S35} (M : Mine w0 b n0 S PT PC PN W vT vC vN ts cs ns) {g : Nat} (hg : ∀ k,PT k ∨ PC k ∨ PN k → k ≠ g) (h0 : w0.heap.size ≤ g) (x y z u v : Value) : Mine w0 b n0 S PT PC PN (((((W.setCell ⟨g,0,none⟩ x).setCell ⟨g,1,none⟩ y).setCell ⟨g,2,none⟩ z).setCell ⟨g,3,none⟩ u).setCell ⟨g,4,none⟩ v) vT vC vN ts cs ns := (Mine.far (j := 4) (Mine.far (j := 3) (Mine.far (j := 2) (Mine.far (j := 1) (Mine.far (j := 0) M hg h0 x) hg h0 y) hg h0 z) hg h0 u) hg h0 v)
theorem put1of3 {W : World} {g t : Nat} {a b c : Value} (h : W.heap[g]? = some (.cells #[a,b,c] t (0,0))) (z : Value) : (W.setCell ⟨g,2,none⟩ z).heap[g]? = some (.cells #[a,b,z] t (0,0)) := (blk_put (cs := #[a,b,c]) h 2 z rfl)
theorem rfar3 {W : World} {b m g : Nat} {v : Value} {xs : List Int} (h : Kd.R (Kd.int .i64) 3 W b (fun k => m ≤ k) v xs) (hne : g < m) (x y z : Value) : Kd.R (Kd.int .i64) 3 (((W.setCell ⟨g,0,none⟩ x).setCell ⟨g,1,none⟩ y).setCell ⟨g,2,none⟩ z) b (fun k => m ≤ k) v xs :=
 Kd.R_far (p := ⟨g,2,none⟩) (Kd.R_far (p := ⟨g,1,none⟩) (Kd.R_far (p := ⟨g,0,none⟩) h (fun k hk e => by have e2 : k = g := e;omega) x) (fun k hk e => by have e2 : k = g := e;omega) y) (fun k hk e => by have e2 : k = g := e;omega) z
theorem rfar1 {W : World} {b m g j : Nat} {v : Value} {xs : List Int} (h : Kd.R (Kd.int .i64) 3 W b (fun k => m ≤ k) v xs) (hne : g < m) (x : Value) : Kd.R (Kd.int .i64) 3 (W.setCell ⟨g,j,none⟩ x) b (fun k => m ≤ k) v xs :=
 Kd.R_far (p := ⟨g,j,none⟩) h (fun k hk e => by have e2 : k = g := e;omega) x
theorem bput3 {W : World} {q g j : Nat} {ks : Array Value} {tt : Nat} (h : W.heap[q]? = some (.cells ks tt (0,0))) (hne : q ≠ g) (x y z : Value) : (((W.setCell ⟨g,j,none⟩ x).setCell ⟨g,j + 1,none⟩ y).setCell ⟨g,j + 2,none⟩ z).heap[q]? = some (.cells ks tt (0,0)) :=
 blk_far (p := ⟨g,j + 2,none⟩) (blk_far (p := ⟨g,j + 1,none⟩) (blk_far (p := ⟨g,j,none⟩) h hne x) hne y) hne z
theorem setN_ {w0 W W1 : World} {b n0 : Nat} {S PT PC PN : Nat → Prop} {vT vC vN vN' : Value} {ts : List S107} {cs : List S94} {ns ns' : List S35} (M : Mine w0 b n0 S PT PC PN W vT vC vN ts cs ns) (hg : W.grownBy W1 vN.ownBlock) (hN : Kd.R k35 35 W1 b (fun k => PN k ∨ W.heap.size ≤ k) vN' ns') (hB : Below b w0 W1) :
  Mine w0 b W1.heap.size S PT PC (fun k => PN k ∨ (W.heap.size ≤ k ∧ k < W1.heap.size)) W1 vT vC vN' ts cs ns' := by
 refine ⟨Kd.S_over' M.T (Kd.R_typed M.N) (by decide) hg,Kd.S_over' M.C (Kd.R_typed M.N) (by decide) hg,Kd.R_mono (Kd.R_bound hN) (fun k hk => hk.1.elim .inl (fun h => .inr ⟨h,hk.2.2.1⟩)),hB,M.K.of_grown hg (fun k e => (M.lt k (.inr (.inr (M.N.1 k e)))).2),fun k hk => ?_,M.ap,M.bn,Nat.le_refl _⟩
 have hs := hg.size
 have hw := M.wn
 have hz := M.sz
 rcases hk with h | h | h | h
 ·exact ⟨by have := (M.lt k (.inl h)).1;omega,(M.lt k (.inl h)).2⟩
 ·exact ⟨by have := (M.lt k (.inr (.inl h))).1;omega,(M.lt k (.inr (.inl h))).2⟩
 ·exact ⟨by have := (M.lt k (.inr (.inr h))).1;omega,(M.lt k (.inr (.inr h))).2⟩
 ·exact ⟨h.2,.inr (by omega)⟩
theorem Mine.nothing (w : World) : Mine w w.heap.size w.heap.size (fun _ => False) (fun _ => False) (fun _ => False) (fun _ => False) w (.slice none 0 0) (.slice none 0 0) (.slice none 0 0) [] [] [] :=
 ⟨Kd.S_nil _ _ _ _ _,Kd.S_nil _ _ _ _ _,Kd.R_nil _ _ _ _ _,Below.refl _ _,Kept.refl _ _,fun k hk => hk.elim (fun h => h.elim) (fun h => h.elim (fun h => h.elim) (fun h => h.elim)),fun _ h => h.elim,Nat.le_refl _,Nat.le_refl _⟩
theorem Mine.copied {w0 W W' : World} {b n0 : Nat} {S PT PC PN : Nat → Prop} {vT vC vN v0 v1 v2 : Value} {ts r1 : List S107} {cs r2 : List S94} {ns r3 : List S35} {mT : Nat} (M : Mine w0 b n0 S PT PC PN W vT vC vN ts cs ns) (hb : Below W.heap.size W W')
  (hT : Kd.S k107 107 W' W.heap.size (fun k => k < mT) v0 r1) (hC : Kd.S k94 94 W' W.heap.size (fun k => mT ≤ k) v1 r2) (hN : Kd.R k35 35 W' W.heap.size (fun _ => True) v2 r3) :
  Mine w0 b W'.heap.size S (fun k => k < mT ∧ W.heap.size ≤ k ∧ k < W'.heap.size) (fun k => mT ≤ k ∧ W.heap.size ≤ k ∧ k < W'.heap.size) (fun k => W.heap.size ≤ k ∧ k < W'.heap.size) W' v0 v1 v2 r1 r2 r3 :=
 have hbs := Nat.le_trans M.bn M.sz
 ⟨Kd.S_lower (Kd.S_mono (Kd.S_bound hT) (fun k hk => ⟨hk.1,hk.2.1,hk.2.2.1⟩)) hbs,Kd.S_lower (Kd.S_mono (Kd.S_bound hC) (fun k hk => ⟨hk.1,hk.2.1,hk.2.2.1⟩)) hbs,Kd.R_lower (Kd.R_mono (Kd.R_bound hN) (fun k hk => ⟨hk.2.1,hk.2.2.1⟩)) hbs,
  Below.trans M.B (hb.mono hbs),M.K.below hb,fun k hk => by
   have hz := M.sz
   rcases hk with h | h | h
   ·exact ⟨h.2.2,.inr (Nat.le_trans hz h.2.1)⟩
   ·exact ⟨h.2.2,.inr (Nat.le_trans hz h.2.1)⟩
   ·exact ⟨h.2,.inr (Nat.le_trans hz h.1)⟩,fun k h h2 => by have h3 := h.1;have h4 := h2.1;omega,M.bn,Nat.le_refl _⟩
theorem copied_far {W W' : World} {g mT : Nat} {o : Obj} (h : W.heap[g]? = some o) : ∀ k,(k < mT ∧ W.heap.size ≤ k ∧ k < W'.heap.size) ∨ (mT ≤ k ∧ W.heap.size ≤ k ∧ k < W'.heap.size) ∨ (W.heap.size ≤ k ∧ k < W'.heap.size) → k ≠ g := fun k hk e => by
 have hl := blk_lt h
 rcases hk with h | h | h <;> omega
abbrev Bx := Nat × Nat × Array Value
def nb : List Bx → Nat → Option Bx
  | [],_ => none
  | x :: _,0 => some x
  | _ :: l,n + 1 => nb l n
def sb : List Bx → Nat → Array Value → List Bx
  | [],_,_ => []
  | x :: l,0,c => (x.1,x.2.1,c) :: l
  | x :: l,n + 1,c => x :: sb l n c
def ids : List Bx → List Nat
  | [] => []
  | x :: l => x.1 :: ids l
def nt : List Bx → Nat → Prop
  | [],_ => True
  | x :: l,t => x.2.1 ≠ t ∧ nt l t
def nc : List (Addr × Value) → Nat → Option (Addr × Value)
  | [],_ => none
  | x :: _,0 => some x
  | _ :: l,n + 1 => nc l n
theorem nb_mem : ∀ {L : List Bx} {i : Nat} {x : Bx},nb L i = some x → x ∈ L
 | _ :: _,0,_,h => by cases h;exact .head _
 | _ :: _,_ + 1,_,h => .tail _ (nb_mem h)
theorem nc_mem : ∀ {L : List (Addr × Value)} {i : Nat} {x : Addr × Value},nc L i = some x → x ∈ L
 | _ :: _,0,_,h => by cases h;exact .head _
 | _ :: _,_ + 1,_,h => .tail _ (nc_mem h)
theorem ids_of : ∀ {L : List Bx} {x : Bx},x ∈ L → x.1 ∈ ids L
 | _ :: _,_,.head _ => .head _
 | _ :: _,_,.tail _ h => .tail _ (ids_of h)
theorem of_ids : ∀ {L : List Bx} {g : Nat},g ∈ ids L → ∃ x ∈ L,x.1 = g
 | _ :: _,_,.head _ => ⟨_,.head _,rfl⟩
 | _ :: _,_,.tail _ h => let ⟨x,hx,e⟩ := of_ids h;⟨x,.tail _ hx,e⟩
theorem ids_sb : ∀ (L : List Bx) (i : Nat) (c : Array Value),ids (sb L i c) = ids L
 | [],_,_ => rfl
 | _ :: _,0,_ => rfl
 | x :: l,n + 1,c => congrArg (x.1 :: ·) (ids_sb l n c)
theorem mem_sb : ∀ {L : List Bx} {i : Nat} {g t : Nat} {cs c : Array Value} {x : Bx},nb L i = some (g,t,cs) → (ids L).Nodup → x ∈ sb L i c → x = (g,t,c) ∨ (x ∈ L ∧ x.1 ≠ g)
 | y :: l,0,g,t,cs,c,x,h,hd,hx => by
  have hd' : y.1 ∉ ids l ∧ (ids l).Nodup := List.nodup_cons.mp hd
  cases h
  cases hx with
  | head => exact .inl rfl
  | tail _ hx => exact .inr ⟨.tail _ hx,fun e => hd'.1 (by have h_ := ids_of hx;rw [e] at h_;exact h_)⟩
 | y :: l,n + 1,g,t,cs,c,x,h,hd,hx => by
  have hd' : y.1 ∉ ids l ∧ (ids l).Nodup := List.nodup_cons.mp hd
  cases hx with
  | head => exact .inr ⟨.head _,fun e => hd'.1 (by have h_ := ids_of (nb_mem (L := l) (i := n) h);rw [e];exact h_)⟩
  | tail _ hx =>
   rcases mem_sb (L := l) (i := n) h hd'.2 hx with e | ⟨h1,h2⟩
   ·exact .inl e
   ·exact .inr ⟨.tail _ h1,h2⟩
theorem nt_mem : ∀ {L : List Bx} {t : Nat} {x : Bx},nt L t → x ∈ L → x.2.1 ≠ t
 | _ :: _,_,_,h,.head _ => h.1
 | _ :: _,_,_,h,.tail _ hx => nt_mem h.2 hx
theorem nlt {L : List Bx} {m g t : Nat} {cs : Array Value} (h : ∀ g ∈ ids L,g < m) (i : Nat) (e : nb L i = some (g,t,cs)) : g < m := h g (ids_of (nb_mem e))
theorem cn1 {a : Addr} {v : Value} {g : Nat} (h : a.block ≠ g) : ∀ x ∈ [(a,v)],x.1.block ≠ g := fun x hx => by cases hx with | head => exact h | tail _ h => cases h
abbrev C2 (w : World) (g : Nat) (a b : Value) : Prop := w.cell? ⟨g,0,none⟩ = some a ∧ w.cell? ⟨g,1,none⟩ = some b
abbrev C3 (w : World) (g : Nat) (a b c : Value) : Prop := w.cell? ⟨g,0,none⟩ = some a ∧ w.cell? ⟨g,1,none⟩ = some b ∧ w.cell? ⟨g,2,none⟩ = some c
abbrev C5 (w : World) (g : Nat) (a b c d e : Value) : Prop := w.cell? ⟨g,0,none⟩ = some a ∧ w.cell? ⟨g,1,none⟩ = some b ∧ w.cell? ⟨g,2,none⟩ = some c ∧ w.cell? ⟨g,3,none⟩ = some d ∧ w.cell? ⟨g,4,none⟩ = some e
theorem cw2 {W : World} {g t : Nat} {a b : Value} (h : W.heap[g]? = some (.cells #[a,b] t (0,0))) : C2 W g a b := ⟨(blk_cell h 0).trans rfl,(blk_cell h 1).trans rfl⟩
theorem cw3 {W : World} {g t : Nat} {a b c : Value} (h : W.heap[g]? = some (.cells #[a,b,c] t (0,0))) : C3 W g a b c := ⟨(blk_cell h 0).trans rfl,(blk_cell h 1).trans rfl,(blk_cell h 2).trans rfl⟩
theorem cw5 {W : World} {g t : Nat} {a b c d e : Value} (h : W.heap[g]? = some (.cells #[a,b,c,d,e] t (0,0))) : C5 W g a b c d e := ⟨(blk_cell h 0).trans rfl,(blk_cell h 1).trans rfl,(blk_cell h 2).trans rfl,(blk_cell h 3).trans rfl,(blk_cell h 4).trans rfl⟩
structure Own (w0 : World) (b n0 : Nat) (S PT PC PN : Nat → Prop) (W : World) (vT vC vN : Value) (ts : List S107) (cs : List S94) (ns : List S35) (L : List Bx) (C : List (Addr × Value)) : Prop where
  M : Mine w0 b n0 S PT PC PN W vT vC vN ts cs ns
  B : ∀ x ∈ L,W.heap[x.1]? = some (.cells x.2.2 x.2.1 (0,0))
  F : ∀ g ∈ ids L,(∀ k,PT k ∨ PC k ∨ PN k → k ≠ g) ∧ w0.heap.size ≤ g
  D : (ids L).Nodup
  K : ∀ x ∈ C,W.cell? x.1 = some x.2 ∧ ∀ g ∈ ids L,x.1.block ≠ g
namespace Own
variable {w0 W W' : World} {b n0 n1 g t i j : Nat} {S PT PC PN PT' PC' PN' : Nat → Prop} {vT vC vN vT' vC' vN' : Value} {ts ts' : List S107} {cs cs' : List S94} {ns ns' : List S35} {L : List Bx} {C : List (Addr × Value)} {ks : Array Value}
theorem start (M : Mine w0 b n0 S PT PC PN W vT vC vN ts cs ns) : Own w0 b n0 S PT PC PN W vT vC vN ts cs ns [] [] :=
 ⟨M,fun _ h => (nomatch h),fun _ h => (nomatch h),List.nodup_nil,fun _ h => (nomatch h)⟩
theorem bk (O : Own w0 b n0 S PT PC PN W vT vC vN ts cs ns L C) (i : Nat) (h : nb L i = some (g,t,ks)) : W.heap[g]? = some (.cells ks t (0,0)) := O.B _ (nb_mem h)
theorem fr (O : Own w0 b n0 S PT PC PN W vT vC vN ts cs ns L C) (i : Nat) (h : nb L i = some (g,t,ks)) : ∀ k,PT k ∨ PC k ∨ PN k → k ≠ g := (O.F _ (ids_of (nb_mem h))).1
theorem ge (O : Own w0 b n0 S PT PC PN W vT vC vN ts cs ns L C) (i : Nat) (h : nb L i = some (g,t,ks)) : w0.heap.size ≤ g := (O.F _ (ids_of (nb_mem h))).2
theorem ck (O : Own w0 b n0 S PT PC PN W vT vC vN ts cs ns L C) (i : Nat) {a : Addr} {v : Value} (h : nc C i = some (a,v)) : W.cell? a = some v := (O.K _ (nc_mem h)).1
theorem lts (O : Own w0 b n0 S PT PC PN W vT vC vN ts cs ns L C) {m : Nat} (hm : m = W.heap.size) : ∀ g ∈ ids L,g < m := fun g hg => by
 obtain ⟨x,hx,rfl⟩ := of_ids hg
 rw [hm]
 exact blk_lt (O.B x hx)
theorem cell (O : Own w0 b n0 S PT PC PN W vT vC vN ts cs ns [] C) {a : Addr} {v : Value} (h : W.cell? a = some v) : Own w0 b n0 S PT PC PN W vT vC vN ts cs ns [] ((a,v) :: C) :=
 ⟨O.M,O.B,O.F,O.D,fun x hx => by
  cases hx with
  | head => exact ⟨h,fun _ h => (nomatch h)⟩
  | tail _ hx => exact O.K x hx⟩
theorem par (O : Own w0 b n0 S PT PC PN W vT vC vN ts cs ns L C) {wp : World} (hw : Below wp.heap.size wp W) (hz : wp.heap.size ≤ w0.heap.size) {a : Addr} {v : Value} (h : wp.cell? a = some v) : Own w0 b n0 S PT PC PN W vT vC vN ts cs ns L ((a,v) :: C) :=
 ⟨O.M,O.B,O.F,O.D,fun x hx => by
  cases hx with
  | head => exact ⟨(hw.cell (World.block_lt_of_cell? wp _ h)).trans h,fun g hg => Nat.ne_of_lt (Nat.lt_of_lt_of_le (World.block_lt_of_cell? wp _ h) (Nat.le_trans hz (O.F g hg).2))⟩
  | tail _ hx => exact O.K x hx⟩
theorem cut (O : Own w0 b n0 S PT PC PN W vT vC vN ts cs ns L C) (n : Nat) : Own w0 b n0 S PT PC PN W vT vC vN ts cs ns L (C.drop n) :=
 ⟨O.M,O.B,O.F,O.D,fun x hx => O.K x (List.mem_of_mem_drop hx)⟩
theorem below (O : Own w0 b n0 S PT PC PN W vT vC vN ts cs ns L C) (hb : Below W.heap.size W W') : Own w0 b n0 S PT PC PN W' vT vC vN ts cs ns L C :=
 ⟨O.M.below hb,fun x hx => blk_below (O.B x hx) hb,O.F,O.D,fun x hx => ⟨(hb.cell (World.block_lt_of_cell? _ _ (O.K x hx).1)).trans (O.K x hx).1,(O.K x hx).2⟩⟩
theorem drew (O : Own w0 b n0 S PT PC PN W vT vC vN ts cs ns L C) : Own w0 b n0 S PT PC PN W.drew vT vC vN ts cs ns L C := O.below (below_drew (Below.refl _ _))
theorem alloc (O : Own w0 b n0 S PT PC PN W vT vC vN ts cs ns L C) (o : Obj) : Own w0 b n0 S PT PC PN (W.alloc o) vT vC vN ts cs ns L C := O.below (below_alloc (Below.refl _ _) o)
theorem box (O : Own w0 b n0 S PT PC PN W vT vC vN ts cs ns L C) (hg : g = W.heap.size) (hbox : W'.heap[g]? = some (.cells ks t (0,0))) (hb : Below W.heap.size W W') : Own w0 b n0 S PT PC PN W' vT vC vN ts cs ns ((g,t,ks) :: L) C :=
 ⟨O.M.below hb,fun x hx => by
  cases hx with
  | head => exact hbox
  | tail _ hx => exact blk_below (O.B x hx) hb,fun q hq => by
  cases hq with
  | head => exact O.M.fresh hg
  | tail _ hq => exact O.F q hq,List.nodup_cons.mpr ⟨fun h => Nat.lt_irrefl g (O.lts hg g h),O.D⟩,fun x hx => ⟨((O.below hb).K x hx).1,fun q hq => by
  cases hq with
  | head => exact fun e => Nat.lt_irrefl g (Nat.lt_of_lt_of_le ((show x.1.block = g from e) ▸ World.block_lt_of_cell? _ _ (O.K x hx).1) (Nat.le_of_eq hg.symm))
  | tail _ hq => exact (O.K x hx).2 q hq⟩⟩
theorem put3 (O : Own w0 b n0 S PT PC PN W vT vC vN ts cs ns L C) (i : Nat) {a c d : Value} (h : nb L i = some (g,t,#[a,c,d])) (x y z : Value) : Own w0 b n0 S PT PC PN (((W.setCell ⟨g,0,none⟩ x).setCell ⟨g,1,none⟩ y).setCell ⟨g,2,none⟩ z) vT vC vN ts cs ns (sb L i #[x,y,z]) C :=
 ⟨mfar3 O.M (O.fr i h) (O.ge i h) x y z,fun q hq => by
  rcases mem_sb h O.D hq with rfl | ⟨h1,h2⟩
  ·exact _root_.Go.Proofs.Ytobachfngmpeiaa.PFnExactAble.put3 (O.bk i h) x y z
  ·exact bfar3 (O.B q h1) h2 x y z,by rw [ids_sb];exact O.F,by rw [ids_sb];exact O.D,fun q hq => ⟨cfar3 (O.K q hq).1 ((O.K q hq).2 g (ids_of (nb_mem h))) x y z,by rw [ids_sb];exact (O.K q hq).2⟩⟩
theorem put5 (O : Own w0 b n0 S PT PC PN W vT vC vN ts cs ns L C) (i : Nat) {a c d e f : Value} (h : nb L i = some (g,t,#[a,c,d,e,f])) (x y z u v : Value) : Own w0 b n0 S PT PC PN (((((W.setCell ⟨g,0,none⟩ x).setCell ⟨g,1,none⟩ y).setCell ⟨g,2,none⟩ z).setCell ⟨g,3,none⟩ u).setCell ⟨g,4,none⟩ v) vT vC vN ts cs ns (sb L i #[x,y,z,u,v]) C :=
 ⟨mfar5 O.M (O.fr i h) (O.ge i h) x y z u v,fun q hq => by
  rcases mem_sb h O.D hq with rfl | ⟨h1,h2⟩
  ·exact _root_.Go.Proofs.Ytobachfngmpeiaa.PFnExactAble.put5 (O.bk i h) x y z u v
  ·exact bfar5 (O.B q h1) h2 x y z u v,by rw [ids_sb];exact O.F,by rw [ids_sb];exact O.D,fun q hq => ⟨cfar5 (O.K q hq).1 ((O.K q hq).2 g (ids_of (nb_mem h))) x y z u v,by rw [ids_sb];exact (O.K q hq).2⟩⟩
theorem put1 (O : Own w0 b n0 S PT PC PN W vT vC vN ts cs ns L C) (i : Nat) {a c d : Value} (h : nb L i = some (g,t,#[a,c,d])) (z : Value) : Own w0 b n0 S PT PC PN (W.setCell ⟨g,2,none⟩ z) vT vC vN ts cs ns (sb L i #[a,c,z]) C :=
 ⟨Mine.far (j := 2) O.M (O.fr i h) (O.ge i h) z,fun q hq => by
  rcases mem_sb h O.D hq with rfl | ⟨h1,h2⟩
  ·exact put1of3 (O.bk i h) z
  ·exact blk_far (p := ⟨g,2,none⟩) (O.B q h1) h2 z,by rw [ids_sb];exact O.F,by rw [ids_sb];exact O.D,fun q hq => ⟨Mine.cell_far (g := g) (j := 2) (O.K q hq).1 ((O.K q hq).2 g (ids_of (nb_mem h))) z,by rw [ids_sb];exact (O.K q hq).2⟩⟩
theorem own (O : Own w0 b n0 S PT PC PN W vT vC vN ts cs ns L C) {v : Value} (M' : Mine w0 b n0 S PT PC PN (W.setCell ⟨g,j,none⟩ v) vT vC vN ts' cs ns) (hg : PT g ∨ PC g ∨ PN g) (hC : ∀ x ∈ C,x.1.block ≠ g) : Own w0 b n0 S PT PC PN (W.setCell ⟨g,j,none⟩ v) vT vC vN ts' cs ns L C :=
 ⟨M',fun x hx => blk_far (p := ⟨g,j,none⟩) (O.B x hx) (fun e => (O.F _ (ids_of hx)).1 g hg e.symm) v,O.F,O.D,fun x hx => ⟨Mine.cell_far (O.K x hx).1 (hC x hx) v,(O.K x hx).2⟩⟩
theorem bare (O : Own w0 b n0 S PT PC PN W vT vC vN ts cs ns L C) : Own w0 b n0 S PT PC PN W vT vC vN ts cs ns L [] := ⟨O.M,O.B,O.F,O.D,fun _ h => (nomatch h)⟩
theorem own0 (O : Own w0 b n0 S PT PC PN W vT vC vN ts cs ns L C) {v : Value} (M' : Mine w0 b n0 S PT PC PN (W.setCell ⟨g,j,none⟩ v) vT vC vN ts' cs ns) (hg : PT g ∨ PC g ∨ PN g) : Own w0 b n0 S PT PC PN (W.setCell ⟨g,j,none⟩ v) vT vC vN ts' cs ns L [] :=
 O.bare.own M' hg (fun _ h => (nomatch h))
theorem chan (O : Own w0 b n0 S PT PC PN W vT vC vN ts cs ns L C) {m q : Nat} {x y z : Value} (M' : Mine w0 b n1 S PT (fun k => PC k ∨ (m ≤ k ∧ k < q)) PN (((W.setCell ⟨g,j,none⟩ x).setCell ⟨g,j + 1,none⟩ y).setCell ⟨g,j + 2,none⟩ z) vT vC vN ts cs' ns) (hg : PC g) (hl : ∀ g ∈ ids L,g < m) :
  Own w0 b n1 S PT (fun k => PC k ∨ (m ≤ k ∧ k < q)) PN (((W.setCell ⟨g,j,none⟩ x).setCell ⟨g,j + 1,none⟩ y).setCell ⟨g,j + 2,none⟩ z) vT vC vN ts cs' ns L [] :=
 ⟨M',fun r hr => bput3 (O.B r hr) (fun e => (O.F _ (ids_of hr)).1 g (.inr (.inl hg)) e.symm) x y z,fun r hr => ⟨fun k hk => by
  rcases hk with h | (h | h) | h
  ·exact (O.F r hr).1 k (.inl h)
  ·exact (O.F r hr).1 k (.inr (.inl h))
  ·have := hl r hr
   have := h.1
   omega
  ·exact (O.F r hr).1 k (.inr (.inr h)),(O.F r hr).2⟩,O.D,fun _ h => (nomatch h)⟩
theorem leave (O : Own w0 b n0 S PT PC PN W vT vC vN ts cs ns L C) (M' : Mine W b n1 (fun k => PT k ∨ PC k ∨ PN k) PT' PC' PN' W' vT' vC' vN' ts' cs' ns') : Own w0 b n1 S PT' PC' PN' W' vT' vC' vN' ts' cs' ns' L [] :=
 ⟨O.M.leave M',fun x hx => (Mine.stays M' (O.B x hx) (O.F _ (ids_of hx)).1).1,fun r hr => by
  obtain ⟨x,hx,rfl⟩ := of_ids hr
  exact ⟨(Mine.stays M' (O.B x hx) (O.F _ hr).1).2,(O.F _ hr).2⟩,O.D,fun _ h => (nomatch h)⟩
theorem copied {v0 v1 v2 : Value} {r1 : List S107} {r2 : List S94} {r3 : List S35} {mT : Nat} (O : Own w0 b n0 S PT PC PN W vT vC vN ts cs ns L C) (hb : Below W.heap.size W W')
  (hT : Kd.S k107 107 W' W.heap.size (fun k => k < mT) v0 r1) (hC : Kd.S k94 94 W' W.heap.size (fun k => mT ≤ k) v1 r2) (hN : Kd.R k35 35 W' W.heap.size (fun _ => True) v2 r3) :
  Own w0 b W'.heap.size S (fun k => k < mT ∧ W.heap.size ≤ k ∧ k < W'.heap.size) (fun k => mT ≤ k ∧ W.heap.size ≤ k ∧ k < W'.heap.size) (fun k => W.heap.size ≤ k ∧ k < W'.heap.size) W' v0 v1 v2 r1 r2 r3 L C :=
 ⟨O.M.copied hb hT hC hN,(O.below hb).B,fun r hr => by
  obtain ⟨x,hx,rfl⟩ := of_ids hr
  exact ⟨copied_far (O.B x hx),(O.F _ hr).2⟩,O.D,(O.below hb).K⟩
theorem grown (O : Own w0 b n0 S PT PC PN W vT vC vN ts cs ns L C) (hg : W.grownBy W' vN.ownBlock) (hN : Kd.R k35 35 W' b (fun k => PN k ∨ W.heap.size ≤ k) vN' ns') (hB : Below b w0 W') (ht : nt L 35) :
  Own w0 b W'.heap.size S PT PC (fun k => PN k ∨ (W.heap.size ≤ k ∧ k < W'.heap.size)) W' vT vC vN' ts cs ns' L [] :=
 ⟨setN_ O.M hg hN hB,fun x hx => blk_grown (O.B x hx) hg (Kd.R_ne O.M.N (O.B x hx) (nt_mem ht hx).symm),fun r hr => ⟨fun k hk => by
  have hl := O.lts rfl r hr
  rcases hk with h | h | h | h
  ·exact (O.F r hr).1 k (.inl h)
  ·exact (O.F r hr).1 k (.inr (.inl h))
  ·exact (O.F r hr).1 k (.inr (.inr h))
  ·have := h.1
   omega,(O.F r hr).2⟩,O.D,fun _ h => (nomatch h)⟩
end Own
theorem ce2_ {w0 W : World} {b0 n0 g t : Nat} {S PT PC PN : Nat → Prop} {vT vC vN : Value} {ts : List S107} {cs : List S94} {ns : List S35} {L : List Bx} {C : List (Addr × Value)} {a b : Value} (O : Aside0 (Own w0 b0 n0 S PT PC PN W vT vC vN ts cs ns L C)) (i : Nat) (h : nb L i = some (g,t,#[a,b]) := by rfl) : W.cell? ⟨g,0,none⟩ = some a ∧ W.cell? ⟨g,1,none⟩ = some b ∧ W.frozen? ⟨g,0,none⟩ = false ∧ W.frozen? ⟨g,1,none⟩ = false := cel2 (O.out.bk i h)
theorem ce3_ {w0 W : World} {b0 n0 g t : Nat} {S PT PC PN : Nat → Prop} {vT vC vN : Value} {ts : List S107} {cs : List S94} {ns : List S35} {L : List Bx} {C : List (Addr × Value)} {a b c : Value} (O : Aside0 (Own w0 b0 n0 S PT PC PN W vT vC vN ts cs ns L C)) (i : Nat) (h : nb L i = some (g,t,#[a,b,c]) := by rfl) : W.cell? ⟨g,0,none⟩ = some a ∧ W.cell? ⟨g,1,none⟩ = some b ∧ W.cell? ⟨g,2,none⟩ = some c ∧ W.frozen? ⟨g,0,none⟩ = false ∧ W.frozen? ⟨g,1,none⟩ = false ∧ W.frozen? ⟨g,2,none⟩ = false := cel3 (O.out.bk i h)
theorem ce5_ {w0 W : World} {b0 n0 g t : Nat} {S PT PC PN : Nat → Prop} {vT vC vN : Value} {ts : List S107} {cs : List S94} {ns : List S35} {L : List Bx} {C : List (Addr × Value)} {a b c d f : Value} (O : Aside0 (Own w0 b0 n0 S PT PC PN W vT vC vN ts cs ns L C)) (i : Nat) (h : nb L i = some (g,t,#[a,b,c,d,f]) := by rfl) : W.cell? ⟨g,0,none⟩ = some a ∧ W.cell? ⟨g,1,none⟩ = some b ∧ W.cell? ⟨g,2,none⟩ = some c ∧ W.cell? ⟨g,3,none⟩ = some d ∧ W.cell? ⟨g,4,none⟩ = some f ∧ W.frozen? ⟨g,0,none⟩ = false ∧ W.frozen? ⟨g,1,none⟩ = false ∧ W.frozen? ⟨g,2,none⟩ = false ∧ W.frozen? ⟨g,3,none⟩ = false ∧ W.frozen? ⟨g,4,none⟩ = false := cel5 (O.out.bk i h)
theorem inj3 {α β γ : Type} {a a' : α} {b b' : β} {c c' : γ} (h : some (a,b,c) = some (a',b',c')) : a = a' ∧ b = b' ∧ c = c' := by cases h;exact ⟨rfl,rfl,rfl⟩
theorem inj4 {α β γ δ : Type} {a a' : α} {b b' : β} {c c' : γ} {d d' : δ} (h : some (a,b,c,d) = some (a',b',c',d')) : a = a' ∧ b = b' ∧ c = c' ∧ d = d' := by cases h;exact ⟨rfl,rfl,rfl,rfl⟩
theorem hide_ {P : Prop} (h : ∀ G : Prop,Aside0 (P → G) → G) : P := h P ⟨id⟩
end Go.Proofs.Ytobachfngmpeiaa.PFnExactAble
namespace Go.Proofs.Ytobachfngmpeiaa.PFnExactAble
open Go.RowKit Go.Proofs.YtobachfngmpeiaaW.PrintWords Go.Proofs.YtobachfngmpeiaaW.PrintLast Go.Proofs.YtobachfngmpeiaaW.PrintMore
attribute [local go_sem] max2_int min2_int max_two min_two max_three min_three max_four min_four
set_option linter.unusedVariables false
set_option linter.unusedSimpArgs false
def spec_l4Go.f (l0_1 : List (List S192)) (ts : List S107) (a2 a3 : Int) : Option (List S107) := if 0 ≤ a2 then (if a2 < (l0_1.length : Int) then ((spec_l1In.f a3 0 (wrap64 (((rd_L4 l0_1 a2).length : Int) - 1))).bind fun t => (if a2 < (ts.length : Int) then (if t = true then (some (setA ts a2 a3)) else (some (setS ts a2 2))) else (none))) else (none)) else (none)
set_option maxHeartbeats 8000000 in
set_option maxRecDepth 100000 in
theorem spec_l4Go.calls {b n0 : Nat} {PT PC PN : Nat → Prop} (A0_0 : Option Addr) (c0_0 : Nat) (l0_0 : List Int) (A0_1 : Option Addr) (c0_1 : Nat) (l0_1 : List (List S192)) (A1_0 : Option Addr) (n1_0 c1_0 : Nat) (ts : List S107) (A1_1 : Option Addr) (n1_1 c1_1 : Nat) (cs : List S94) (A1_2 : Option Addr) (n1_2 c1_2 : Nat) (ns : List S35) (a2 a3 : Int) (r : List S107) (w : World) (hr0_1 : Kd.C (Kd.slice 192 k192) w A0_1 l0_1.length l0_1) (hM : Mine w b n0 (fun k => PT k ∨ PC k ∨ PN k) PT PC PN w (.slice A1_0 n1_0 c1_0) (.slice A1_1 n1_1 c1_1) (.slice A1_2 n1_2 c1_2) ts cs ns) (h : spec_l4Go.f l0_1 ts a2 a3 = some r) :
  Calls Try.prog 174 #[.agg #[.slice A0_0 l0_0.length c0_0,.slice A0_1 l0_1.length c0_1],.agg #[.slice A1_0 n1_0 c1_0,.slice A1_1 n1_1 c1_1,.slice A1_2 n1_2 c1_2],.int .i64 a2,.int .i64 a3] w fun e w' => e = .returned (.agg #[.slice A1_0 n1_0 c1_0,.slice A1_1 n1_1 c1_1,.slice A1_2 n1_2 c1_2]) ∧ Mine w b n0 (fun k => PT k ∨ PC k ∨ PN k) PT PC PN w' (.slice A1_0 n1_0 c1_0) (.slice A1_1 n1_1 c1_1) (.slice A1_2 n1_2 c1_2) r cs ns := by
 unfold spec_l4Go.f at h
 by_cases h0 : 0 ≤ a2
 case neg => rw [if_neg h0] at h;cases h
 rw [if_pos h0] at h
 by_cases h1 : a2 < (l0_1.length : Int)
 case neg => rw [if_neg h1] at h;cases h
 rw [if_pos h1] at h
 obtain ⟨t,h3,h⟩ := Option.bind_eq_some_iff.mp h
 by_cases h2 : a2 < (ts.length : Int)
 case neg => rw [if_neg h2] at h;cases h
 rw [if_pos h2] at h
 obtain ⟨gT,rfl,rfl,hPT,-⟩ := hM.headT a2 h0 h2
 obtain ⟨ad3,A3_0,c3_0,e3,hx3_0,-,-⟩ := at_L4 hr0_1 a2 h0 h1
 cases e3
 have hu44 := Try.underlying44
 have hu28 := Try.underlying28
 have ST := aM_ (Own.start hM)
 replace ST := aM_ (ST.out.cell hx3_0)
 have HPT := aM_ hPT
 have HI0 := aM_ h0
 have HI1 := aM_ h1
 have HI2 := aM_ h2
 have HA3 := aM_ h3
 have HH := aM_ h
 clear hM hr0_1 hPT h3 h hx3_0
 replace h0 := eq_true h0
 replace h1 := eq_true h1
 replace h2 := eq_true h2
 go_enter Try.func174,Try.ntmps174
 go_wp2_with (first | (refine bX_ 4 (cs := #[.slice A0_0 l0_0.length c0_0,.slice (some ad3) l0_1.length c0_1]) (t := 44) ?_;intro gb1 hg w1 hbox hb;replace ST := aM_ (ST.out.box hg hbox hb);clear hg hbox hb;replace zc1 := ce2_ ST 0;replace y3 := ST.out.ck 0 rfl) | (refine bX_ 5 (cs := #[.slice (some ⟨gT,0,none⟩) ts.length c1_0,.slice A1_1 n1_1 c1_1,.slice A1_2 n1_2 c1_2]) (t := 28) ?_;intro gb2 hg w2 hbox hb;replace ST := aM_ (ST.out.box hg hbox hb);clear hg hbox hb;replace zc1 := ce2_ ST 1;replace zc2 := ce3_ ST 0;replace y3 := ST.out.ck 0 rfl) | (refine bX_ 8 (cs := #[.slice none 0 0,.slice none 0 0,.slice none 0 0]) (t := 28) ?_;intro gb3 hg w3 hbox hb;replace ST := aM_ (ST.out.box hg hbox hb);clear hg hbox hb;replace zc1 := ce2_ ST 2;replace zc2 := ce3_ ST 1;replace zc3 := ce3_ ST 0;replace y3 := ST.out.ck 0 rfl) | (refine gL_ (some 17) Try.func111 #[.int .i64 a3,.int .i64 0,.int .i64 (wrap64 (((rd_L4 l0_1 a2).length : Int) - 1))] ?_;(with_reducible refine (spec_l1In.calls a3 0 (wrap64 (((rd_L4 l0_1 a2).length : Int) - 1)) t _ HA3.out).mono ?_);rintro e w4 ⟨rfl,hd_⟩;refine ⟨_,rfl,?_⟩;have hb := Drawn0.below hd_;replace ST := aM_ (ST.out.below hb);clear hb hd_;(try clear y3);replace zc1 := ce2_ ST 2;replace zc2 := ce3_ ST 1;replace zc3 := ce3_ ST 0;refine hide_ (fun G hG => ?_)))
 have h := HH.out
 clear HH
 cases t
 ·rw [if_neg (by decide)] at h
  obtain rfl := Option.some.inj h
  refine hG.out ?_
  clear hG G
  obtain ⟨A9,c9,hx_0,hx_1,hx_2,hx_f,-⟩ := ST.out.M.atT a2 HI0.out HI2.out
  have hxf0 := hx_f 0
  have hxf2 := hx_f 2
  simp only [Nat.add_zero] at hxf0
  go_wp2_with (first | ((with_reducible refine gate_store (t := 3) (p := 23) rfl ?_);refine store_event (t := 3) (p := 23) (v := ?vo2) (w1 := (w4.setCell ⟨gT,(a2).toNat * 3 + 2,none⟩ (.int .i64 2))) ?hg ?ho ?hn ?hr ?_;(case ho => rfl);(case hg => rfl);(case hn => rfl);(case hr => first | (go_simp;done) | (go_simp;rfl));intro w5 hw;subst hw;replace ST := aM_ (ST.out.own0 (ST.out.M.setT a2 HI0.out HI2.out 2).2 (.inl HPT.out));replace zc1 := ce2_ ST 2;replace zc2 := ce3_ ST 1;replace zc3 := ce3_ ST 0))
  replace ST := aM_ (ST.out.put3 0 rfl (.slice (some ⟨gT,0,none⟩) ts.length c1_0) (.slice A1_1 n1_1 c1_1) (.slice A1_2 n1_2 c1_2))
  refine bodyPost_ret (results_cell_row rfl _ _ gb3 28 _ (0,0) _ rfl (ST.out.bk 0 rfl) Try.underlying28 rfl (by kernel_rfl)) rfl ?_
  exact ⟨by first | rfl | (simp <;> rfl),ST.out.M⟩
 ·rw [if_pos rfl] at h
  obtain rfl := Option.some.inj h
  refine hG.out ?_
  clear hG G
  obtain ⟨A9,c9,hx_0,hx_1,hx_2,hx_f,-⟩ := ST.out.M.atT a2 HI0.out HI2.out
  have hxf0 := hx_f 0
  have hxf2 := hx_f 2
  simp only [Nat.add_zero] at hxf0
  go_wp2_with (first | ((with_reducible refine gate_store (t := 3) (p := 30) rfl ?_);refine store_event (t := 3) (p := 30) (v := ?vo3) (w1 := (w4.setCell ⟨gT,(a2).toNat * 3,none⟩ (.int .i64 a3))) ?hg ?ho ?hn ?hr ?_;(case ho => rfl);(case hg => rfl);(case hn => rfl);(case hr => first | (go_simp;done) | (go_simp;rfl));intro w5 hw;subst hw;replace ST := aM_ (ST.out.own0 (ST.out.M.setT a2 HI0.out HI2.out a3).1 (.inl HPT.out));replace zc1 := ce2_ ST 2;replace zc2 := ce3_ ST 1;replace zc3 := ce3_ ST 0))
  replace ST := aM_ (ST.out.put3 0 rfl (.slice (some ⟨gT,0,none⟩) ts.length c1_0) (.slice A1_1 n1_1 c1_1) (.slice A1_2 n1_2 c1_2))
  refine bodyPost_ret (results_cell_row rfl _ _ gb3 28 _ (0,0) _ rfl (ST.out.bk 0 rfl) Try.underlying28 rfl (by kernel_rfl)) rfl ?_
  exact ⟨by first | rfl | (simp <;> rfl),ST.out.M⟩
def spec_l4Chan.f (k : Nat) (ts : List S107) (cs : List S94) (who op r a b n : Int) : Option (List S107 × List S94 × Int) :=
  if 0 ≤ who then (if who < (ts.length : Int) then (if 0 ≤ n then (if n < (cs.length : Int) then
    (if op = 5 then (if 0 ≤ a then (if a < ((rd_T107 ts who).f1.length : Int) then ((spec_ChanSend.f k (rd_T94 cs n).f0 (rd_T94 cs n).f1 (rd_T94 cs n).f2 (rd (rd_T107 ts who).f1 a)).bind fun t => (some (ts,(cs.set n.toNat (⟨t.1,t.2.1,t.2.2.1⟩ : S94)),t.2.2.2))) else none) else none) else if op = 7 then (if 0 ≤ a then (if a < ((rd_T107 ts who).f1.length : Int) then ((spec_ChanSend.f k (rd_T94 cs n).f0 (rd_T94 cs n).f1 (rd_T94 cs n).f2 (rd (rd_T107 ts who).f1 a)).bind fun t => (if t.2.2.2 = 2 then (some (ts,(cs.set n.toNat (⟨t.1,t.2.1,t.2.2.1⟩ : S94)),2)) else (if 0 ≤ r then (if r < ((rd_T107 ts who).f1.length : Int) then ((spec_l4Bit.f (t.2.2.2 == 0)).bind fun y => (some (setR ts who r y,(cs.set n.toNat (⟨t.1,t.2.1,t.2.2.1⟩ : S94)),0))) else none) else none))) else none) else none) else if op = 9 then ((spec_ChanClose.f (rd_T94 cs n).f0 (rd_T94 cs n).f1 (rd_T94 cs n).f2).bind fun t => (some (ts,(cs.set n.toNat (⟨t.1,t.2.1,t.2.2.1⟩ : S94)),t.2.2.2))) else if op = 6 then ((spec_ChanTake.f (rd_T94 cs n).f0 (rd_T94 cs n).f1 (rd_T94 cs n).f2).bind fun t => (if t.2.2.2.2 = 1 then (some (ts,(cs.set n.toNat (⟨t.1,t.2.1,t.2.2.1⟩ : S94)),1)) else (if 0 ≤ r then (if r < ((rd_T107 ts who).f1.length : Int) then (if 0 ≤ b then (if b < ((rd_T107 ts who).f1.length : Int) then ((spec_l4Bit.f (t.2.2.2.2 == 0)).bind fun y => (some (setR (setR ts who r t.2.2.2.1) who b y,(cs.set n.toNat (⟨t.1,t.2.1,t.2.2.1⟩ : S94)),0))) else none) else none) else none) else none))) else ((spec_ChanTake.f (rd_T94 cs n).f0 (rd_T94 cs n).f1 (rd_T94 cs n).f2).bind fun t => (if 0 ≤ r then (if r < ((rd_T107 ts who).f1.length : Int) then (if 0 ≤ b then (if b < ((rd_T107 ts who).f1.length : Int) then (if 0 ≤ t.2.2.2.2 then (if t.2.2.2.2 < 4 then (some (setR (setR ts who r t.2.2.2.1) who b (rd [1,0,0,2] t.2.2.2.2),(cs.set n.toNat (⟨t.1,t.2.1,t.2.2.1⟩ : S94)),0)) else none) else none) else none) else none) else none) else none))) else none) else none) else none) else none
end Go.Proofs.Ytobachfngmpeiaa.PFnExactAble
