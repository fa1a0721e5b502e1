/- A part of the proof that the law FnLoad holds for every input: the words, functions and walks that its row needs, without a condition of their own. -/
import Derived.Test.YthbcnakmnbilhaaProg
import Derived.Laws.StructEq
import Derived.Test.YthbcnakmnbilhaaZFnLoada0
import Derived.Test.YthbcnakmnbilhaaZFnLoada1
namespace Go.Proofs.Ythbcnakmnbilhaa.Marks
open Go.RowKit Go.Proofs.YthbcnakmnbilhaaW.PrintWords Go.Proofs.YthbcnakmnbilhaaW.PrintLast Go.Proofs.YthbcnakmnbilhaaW.PrintMore
set_option linter.unusedVariables false
def Sc (v v' : Value) : Prop := v' = v ∨ (∃ k n n',v = .int k n ∧ v' = .int k n') ∨ (∃ b b',v = .bool b ∧ v' = .bool b')
theorem Sc.refl (v : Value) : Sc v v := .inl rfl
theorem Sc.trans {a b c : Value} (h : Sc a b) (k : Sc b c) : Sc a c := by
  rcases h with rfl | ⟨_,_,_,rfl,rfl⟩ | ⟨_,_,rfl,rfl⟩
  · exact k
  · rcases k with rfl | ⟨_,_,n',h1,rfl⟩ | ⟨_,_,h1,_⟩
    · exact .inr (.inl ⟨_,_,_,rfl,rfl⟩)
    · cases h1
      exact .inr (.inl ⟨_,_,_,rfl,rfl⟩)
    · cases h1
  · rcases k with rfl | ⟨_,_,_,h1,_⟩ | ⟨_,b',h1,rfl⟩
    · exact .inr (.inr ⟨_,_,rfl,rfl⟩)
    · cases h1
    · exact .inr (.inr ⟨_,_,rfl,rfl⟩)
def Mk (P : Nat → Prop) (w w' : World) : Prop := Kept w w' P ∧ Below 0 w w' ∧ ∀ (g : Nat) (cs : Array Value) (t : TypeId),w.heap[g]? = some (.cells cs t (0,0)) → ∃ cs' : Array Value,w'.heap[g]? = some (.cells cs' t (0,0)) ∧ ∀ (j : Nat) v,cs[j]? = some v → ∃ v',cs'[j]? = some v' ∧ Sc v v'
section
variable {P P' : Nat → Prop} {w w' w1 W : World}
theorem Mk.refl (P : Nat → Prop) (w : World) : Mk P w w := ⟨Kept.refl w P,Below.refl _ _,fun g cs t h => ⟨cs,h,fun j v hj => ⟨v,hj,Sc.refl v⟩⟩⟩
theorem Mk.trans (h : Mk P w w1) (k : Mk P w1 w') : Mk P w w' := by
  refine ⟨h.1.then_ k.1 (fun _ h2 => .inl h2),h.2.1.trans k.2.1,fun g cs t hg => ?_⟩
  obtain ⟨cs1,h1,e1⟩ := h.2.2 g cs t hg
  obtain ⟨cs2,h2,e2⟩ := k.2.2 g cs1 t h1
  refine ⟨cs2,h2,fun j v hj => ?_⟩
  obtain ⟨v1,hv1,s1⟩ := e1 j v hj
  obtain ⟨v2,hv2,s2⟩ := e2 j v1 hv1
  exact ⟨v2,hv2,s1.trans s2⟩
theorem Mk.mono (h : Mk P w w') (hp : ∀ k,P k → P' k) : Mk P' w w' := ⟨h.1.mono hp,h.2⟩
theorem Mk.drewN (h : Mk P w W) (n : Nat) : Mk P w (W.drewN n) := ⟨h.1,pw_below_drewN h.2.1 n,h.2.2⟩
theorem Mk.drew (h : Mk P w W) : Mk P w W.drew := ⟨h.1,below_drew h.2.1,h.2.2⟩
theorem Mk.below (h : Mk P w w') {B : Nat} (hB : B ≤ w.heap.size) (hP : ∀ k,P k → B ≤ k) : Below B w w' := ⟨h.2.1.os,h.2.1.tape,h.2.1.output,h.2.1.size,fun k hk => h.1.2 k (Nat.lt_of_lt_of_le hk hB) (fun hp => by have := hP k hp;omega)⟩
theorem below_set0 (W : World) (a : Addr) (u : Value) : Below 0 W (W.setCell a u) := ⟨rfl,rfl,rfl,by simp [World.setCell],fun k hk => by omega⟩
theorem Mk.of_below (hb : Below w.heap.size w w') : Mk P w w' := ⟨Kept.of_below hb P,hb.mono (Nat.zero_le _),fun g cs t hg => ⟨cs,(hb.block g (blk_lt hg)).trans hg,fun j v hj => ⟨v,hj,Sc.refl v⟩⟩⟩
theorem Mk.set (h : Mk P w W) {g o : Nat} (hP : P g) {v u : Value} (hc : W.cell? ⟨g,o,none⟩ = some v) (hs : Sc v u) : Mk P w (W.setCell ⟨g,o,none⟩ u) := by
  refine ⟨h.1.setCell (.inl hP) u,h.2.1.trans (below_set0 _ _ _),fun g' cs t hg => ?_⟩
  obtain ⟨cs1,h1,e1⟩ := h.2.2 g' cs t hg
  by_cases e : g' = g
  · subst e
    refine ⟨_,blk_set h1 o u,fun j v0 hj => ?_⟩
    obtain ⟨v1,hv1,s1⟩ := e1 j v0 hj
    by_cases ej : j = o
    · subst ej
      have hv : v1 = v := Option.some.inj (hv1.symm.trans ((blk_cell h1 j).symm.trans hc))
      subst hv
      have hlt : j < cs1.size := (Array.getElem?_eq_some_iff.1 hv1).1
      exact ⟨u,by rw [Array.getElem?_setIfInBounds_self];simp [hlt],s1.trans hs⟩
    · exact ⟨v1,by rw [Array.getElem?_setIfInBounds_ne (Ne.symm ej)];exact hv1,s1⟩
  · exact ⟨cs1,(Below.heap_setCell W ⟨g,o,none⟩ u g' e).trans h1,e1⟩
end
def IntAt (w : World) (g o : Nat) : Prop := ∃ (cs : Array Value) (t : TypeId) (n : Int),w.heap[g]? = some (.cells cs t (0,0)) ∧ cs[o]? = some (.int .i64 n)
def BoolAt (w : World) (g o : Nat) : Prop := ∃ (cs : Array Value) (t : TypeId) (b : Bool),w.heap[g]? = some (.cells cs t (0,0)) ∧ cs[o]? = some (.bool b)
def SlAt (w : World) (g o : Nat) (A : Option Addr) (n c : Nat) : Prop := ∃ (cs : Array Value) (t : TypeId),w.heap[g]? = some (.cells cs t (0,0)) ∧ cs[o]? = some (.slice A n c)
section
variable {P : Nat → Prop} {w w' : World} {g o n c : Nat} {A : Option Addr}
theorem IntAt.mk (h : IntAt w g o) (k : Mk P w w') : IntAt w' g o := by
  obtain ⟨cs,t,n,h1,h2⟩ := h
  obtain ⟨cs',h3,e⟩ := k.2.2 g cs t h1
  obtain ⟨v',h4,s⟩ := e o _ h2
  rcases s with rfl | ⟨_,_,n',h5,rfl⟩ | ⟨_,_,h5,_⟩
  · exact ⟨cs',t,n,h3,h4⟩
  · cases h5
    exact ⟨cs',t,n',h3,h4⟩
  · cases h5
theorem BoolAt.mk (h : BoolAt w g o) (k : Mk P w w') : BoolAt w' g o := by
  obtain ⟨cs,t,n,h1,h2⟩ := h
  obtain ⟨cs',h3,e⟩ := k.2.2 g cs t h1
  obtain ⟨v',h4,s⟩ := e o _ h2
  rcases s with rfl | ⟨_,_,n',h5,rfl⟩ | ⟨_,b',h5,rfl⟩
  · exact ⟨cs',t,n,h3,h4⟩
  · cases h5
  · exact ⟨cs',t,b',h3,h4⟩
theorem SlAt.mk (h : SlAt w g o A n c) (k : Mk P w w') : SlAt w' g o A n c := by
  obtain ⟨cs,t,h1,h2⟩ := h
  obtain ⟨cs',h3,e⟩ := k.2.2 g cs t h1
  obtain ⟨v',h4,s⟩ := e o _ h2
  rcases s with rfl | ⟨_,_,n',h5,rfl⟩ | ⟨_,b',h5,rfl⟩
  · exact ⟨cs',t,h3,h4⟩
  · cases h5
  · cases h5
theorem IntAt.cell (h : IntAt w g o) : ∃ n,w.cell? ⟨g,o,none⟩ = some (.int .i64 n) ∧ w.frozen? ⟨g,o,none⟩ = false := by
  obtain ⟨cs,t,n,h1,h2⟩ := h
  exact ⟨n,(blk_cell h1 o).trans h2,blk_frozen h1 o⟩
theorem BoolAt.cell (h : BoolAt w g o) : ∃ n,w.cell? ⟨g,o,none⟩ = some (.bool n) ∧ w.frozen? ⟨g,o,none⟩ = false := by
  obtain ⟨cs,t,n,h1,h2⟩ := h
  exact ⟨n,(blk_cell h1 o).trans h2,blk_frozen h1 o⟩
theorem SlAt.cell (h : SlAt w g o A n c) : w.cell? ⟨g,o,none⟩ = some (.slice A n c) := by
  obtain ⟨cs,t,h1,h2⟩ := h
  exact (blk_cell h1 o).trans h2
end
abbrev Cel := Nat × Nat × Bool
def cellv (b : Bool) (k : Int) : Value := if b = true then .bool (decide (Int.tmod k 3 = 0)) else .int .i64 k
def writes : World → List Cel → Int → World
  | w,[],_ => w
  | w,c :: L,k => writes (w.setCell ⟨c.1,c.2.1,none⟩ (cellv c.2.2 k)) L (k + 1)
theorem writes_append : ∀ (L M : List Cel) (w : World) (k : Int),writes w (L ++ M) k = writes (writes w L k) M (k + L.length)
  | [],M,w,k => by simp [writes]
  | c :: L,M,w,k => by
    rw [List.cons_append,writes,writes,writes_append L M,List.length_cons]
    congr 1
    omega
theorem drewN_set (w : World) (n : Nat) (a : Addr) (v : Value) : (w.drewN n).setCell a v = (w.setCell a v).drewN n := rfl
theorem writes_drewN : ∀ (L : List Cel) (w : World) (n : Nat) (k : Int),writes (w.drewN n) L k = (writes w L k).drewN n
  | [],w,n,k => rfl
  | c :: L,w,n,k => by
    rw [writes,writes,drewN_set,writes_drewN L]
def Wr (w : World) (L : List Cel) (k : Int) (w' : World) : Prop := ∃ n,w' = (writes w L k).drewN n
section
variable {w w' w1 w2 : World} {L M : List Cel} {k k2 : Int}
theorem Wr.refl (w : World) (k : Int) : Wr w [] k w := ⟨0,rfl⟩
theorem Wr.drewN (h : Wr w L k w') (n : Nat) : Wr w L k (w'.drewN n) := by
  obtain ⟨m,rfl⟩ := h
  exact ⟨m + n,World.drewN_drewN ..⟩
theorem Wr.trans (h : Wr w L k w1) (h2 : Wr w1 M k2 w2) (e : k2 = k + L.length) : Wr w (L ++ M) k w2 := by
  obtain ⟨m,rfl⟩ := h
  obtain ⟨n,rfl⟩ := h2
  subst e
  rw [writes_drewN,← writes_append]
  exact ⟨m + n,World.drewN_drewN ..⟩
theorem Wr.set (h : Wr w L k w') {g o : Nat} (b : Bool) {v : Value} (e : v = cellv b (k + L.length)) : Wr w (L ++ [(g,o,b)]) k (w'.setCell ⟨g,o,none⟩ v) :=
  h.trans (k2 := k + L.length) (M := [(g,o,b)]) ⟨0,by subst e;rfl⟩ rfl
end
inductive Ty where
  | int | bool | pair (a b : Ty) | sl (a : Ty)
def Ty.sz : Ty → Nat
  | .int => 1
  | .bool => 1
  | .sl _ => 1
  | .pair a b => a.sz + b.sz
def cat (Ls : Nat → List Cel) (n : Nat) : List Cel := (List.range n).flatMap Ls
theorem cat_succ (Ls : Nat → List Cel) (n : Nat) : cat Ls (n + 1) = cat Ls n ++ Ls n := by simp [cat,List.range_succ]
def Vis (P : Nat → Prop) (w : World) : Ty → Nat → Nat → List Cel → Prop
  | .int,g,o,L => L = [(g,o,false)] ∧ IntAt w g o
  | .bool,g,o,L => L = [(g,o,true)] ∧ BoolAt w g o
  | .pair a b,g,o,L => ∃ L1 L2,L = L1 ++ L2 ∧ Vis P w a g o L1 ∧ Vis P w b g (o + a.sz) L2
  | .sl a,g,o,L => ∃ A n c,SlAt w g o A n c ∧ n ≤ 9223372036854775807 ∧ ∃ Ls,L = cat Ls n ∧ (0 < n → ∃ g',A = some ⟨g',0,none⟩ ∧ P g' ∧ ∀ i,i < n → Vis P w a g' (i * a.sz) (Ls i))
def RowV (P : Nat → Prop) (w : World) (a : Ty) (A : Option Addr) (n : Nat) (L : List Cel) : Prop := n ≤ 9223372036854775807 ∧ ∃ Ls,L = cat Ls n ∧ (0 < n → ∃ g',A = some ⟨g',0,none⟩ ∧ P g' ∧ ∀ i,i < n → Vis P w a g' (i * a.sz) (Ls i))
theorem Vis.mk {P Q : Nat → Prop} {w w' : World} (k : Mk Q w w') : ∀ {t : Ty} {g o : Nat} {L : List Cel},Vis P w t g o L → Vis P w' t g o L
  | .int,g,o,L,h => ⟨h.1,h.2.mk k⟩
  | .bool,g,o,L,h => ⟨h.1,h.2.mk k⟩
  | .pair a b,g,o,L,⟨L1,L2,e,h1,h2⟩ => ⟨L1,L2,e,Vis.mk k h1,Vis.mk k h2⟩
  | .sl a,g,o,L,⟨A,n,c,hs,hb,Ls,e,h⟩ => ⟨A,n,c,hs.mk k,hb,Ls,e,fun hn => by
    obtain ⟨g',e',hp,hi⟩ := h hn
    exact ⟨g',e',hp,fun i hl => Vis.mk k (hi i hl)⟩⟩
theorem RowV.mk {P Q : Nat → Prop} {w w' : World} (k : Mk Q w w') {t : Ty} {A : Option Addr} {n : Nat} {L : List Cel} (h : RowV P w t A n L) : RowV P w' t A n L := by
  obtain ⟨hb,Ls,e,h⟩ := h
  exact ⟨hb,Ls,e,fun hn => by
    obtain ⟨g',e',hp,hi⟩ := h hn
    exact ⟨g',e',hp,fun i hl => Vis.mk k (hi i hl)⟩⟩
def HeldAt (w : World) (L : List Cel) (k : Int) : Prop := ∀ (j : Nat) (c : Cel),L[j]? = some c → w.cell? ⟨c.1,c.2.1,none⟩ = some (cellv c.2.2 (k + j))
section
variable {w w' : World} {L M : List Cel} {k : Int}
theorem HeldAt.left (h : HeldAt w (L ++ M) k) : HeldAt w L k := fun j c hj => h j c (by rw [List.getElem?_append_left (List.getElem?_eq_some_iff.1 hj).1];exact hj)
theorem HeldAt.right (h : HeldAt w (L ++ M) k) : HeldAt w M (k + L.length) := fun j c hj => by
  have := h (L.length + j) c (by rw [List.getElem?_append_right (by omega),Nat.add_sub_cancel_left];exact hj)
  rw [this]
  congr 2
  push_cast
  omega
theorem HeldAt.one {g o : Nat} {b : Bool} (h : HeldAt w [(g,o,b)] k) : w.cell? ⟨g,o,none⟩ = some (cellv b k) := by
  have := h 0 (g,o,b) rfl
  simpa using this
theorem HeldAt.cat {Ls : Nat → List Cel} {n j : Nat} (h : HeldAt w (cat Ls n) k) (hj : j < n) : HeldAt w (Ls j) (k + (Marks.cat Ls j).length) := by
  have e : ∃ T,Marks.cat Ls n = Marks.cat Ls j ++ (Ls j ++ T) := by
    have h1 : ∀ d,∃ T,Marks.cat Ls (j + 1 + d) = Marks.cat Ls (j + 1) ++ T := by
      intro d
      induction d with
      | zero => exact ⟨[],by simp⟩
      | succ d ih =>
        obtain ⟨T,e⟩ := ih
        exact ⟨T ++ Ls (j + 1 + d),by rw [← Nat.add_assoc,cat_succ Ls (j + 1 + d),e,List.append_assoc]⟩
    obtain ⟨T,e⟩ := h1 (n - (j + 1))
    rw [show j + 1 + (n - (j + 1)) = n by omega,cat_succ,List.append_assoc] at e
    exact ⟨T,e⟩
  obtain ⟨T,e⟩ := e
  rw [e] at h
  exact h.right.left
end
theorem RowV.drewN {P : Nat → Prop} {w : World} {t : Ty} {A : Option Addr} {n : Nat} {L : List Cel} (h : RowV P w t A n L) (m : Nat) : RowV P (w.drewN m) t A n L := RowV.mk (Q := fun _ => False) ((Mk.refl _ w).drewN m) h
theorem HeldAt.drewN {w : World} {L : List Cel} {k : Int} (h : HeldAt w L k) (m : Nat) : HeldAt (w.drewN m) L k := h
theorem wrap_in {n : Int} (h0 : -9223372036854775808 ≤ n) (h1 : n ≤ 9223372036854775807) : wrap64 n = n := by
  unfold wrap64
  omega
end Go.Proofs.Ythbcnakmnbilhaa.Marks
namespace Go.Proofs.Ythbcnakmnbilhaa.Marks
open Go.RowKit Go.Proofs.YthbcnakmnbilhaaW.PrintWords Go.Proofs.YthbcnakmnbilhaaW.PrintLast Go.Proofs.YthbcnakmnbilhaaW.PrintMore
set_option linter.unusedVariables false
set_option linter.unusedSimpArgs false
def addr2 (c : Cel) : Nat × Nat := (c.1,c.2.1)
def CellAt (w : World) (g o : Nat) : Prop := ∃ (cs : Array Value) (t : TypeId),w.heap[g]? = some (.cells cs t (0,0)) ∧ o < cs.size
section
variable {P Q : Nat → Prop} {w w' w0 w1 w2 W W' : World} {g o n : Nat} {k k2 : Int} {L M : List Cel} {A : Option Addr} {t : Ty}
theorem CellAt.set (h : CellAt w g o) (b p : Nat) (v : Value) : CellAt (w.setCell ⟨b,p,none⟩ v) g o := by
  obtain ⟨cs,t,h1,h2⟩ := h
  by_cases e : g = b
  · subst e
    exact ⟨_,t,blk_set h1 p v,by simpa using h2⟩
  · exact ⟨cs,t,blk_far h1 (p := ⟨b,p,none⟩) e v,h2⟩
theorem IntAt.at_ (h : IntAt w g o) : CellAt w g o := by
  obtain ⟨cs,t,n,h1,h2⟩ := h
  exact ⟨cs,t,h1,(Array.getElem?_eq_some_iff.1 h2).1⟩
theorem BoolAt.at_ (h : BoolAt w g o) : CellAt w g o := by
  obtain ⟨cs,t,n,h1,h2⟩ := h
  exact ⟨cs,t,h1,(Array.getElem?_eq_some_iff.1 h2).1⟩
theorem CellAt.self (h : CellAt w g o) (v : Value) : (w.setCell ⟨g,o,none⟩ v).cell? ⟨g,o,none⟩ = some v := by
  obtain ⟨cs,t,h1,h2⟩ := h
  rw [blk_cell (blk_set h1 o v) o,Array.getElem?_setIfInBounds_self]
  simp [h2]
theorem writes_other : ∀ (L : List Cel) (w : World) (k : Int) (g o : Nat),(g,o) ∉ L.map addr2 → (writes w L k).cell? ⟨g,o,none⟩ = w.cell? ⟨g,o,none⟩
  | [],w,k,g,o,_ => rfl
  | c :: L,w,k,g,o,h => by
    rw [List.map_cons,List.mem_cons,not_or] at h
    rw [writes,writes_other L _ _ _ _ h.2]
    exact World.cell?_setCell_other (w := w) (a := ⟨c.1,c.2.1,none⟩) (b := ⟨g,o,none⟩) (v := cellv c.2.2 k) (h := fun e => h.1 (by injection e with e1 e2;rw [addr2,e1,e2]))
theorem held_writes : ∀ (L : List Cel) (w : World) (k : Int),(∀ c ∈ L,CellAt w c.1 c.2.1) → (L.map addr2).Nodup → HeldAt (writes w L k) L k
  | [],w,k,_,_ => fun j c hj => by simp at hj
  | c :: L,w,k,hc,hn => by
    rw [List.map_cons,List.nodup_cons] at hn
    intro j d hj
    cases j with
    | zero =>
      have e : d = c := by simpa using hj.symm
      subst e
      rw [writes,writes_other L _ _ d.1 d.2.1 (by exact hn.1),(hc d List.mem_cons_self).self]
      simp
    | succ j =>
      have h2 := held_writes L (w.setCell ⟨c.1,c.2.1,none⟩ (cellv c.2.2 k)) (k + 1) (fun d hd => (hc d (List.mem_cons_of_mem _ hd)).set _ _ _) hn.2 j d (by simpa using hj)
      rw [writes,h2]
      congr 2
      push_cast
      omega
theorem HeldAt.of_heap (h : HeldAt w L k) (hh : ∀ c ∈ L,w'.heap[c.1]? = w.heap[c.1]?) : HeldAt w' L k := fun j c hj => by
  have := hh c (List.mem_of_getElem? hj)
  rw [← h j c hj]
  simp [World.cell?,this]
theorem set_heap (w w' : World) (a : Addr) (v : Value) (g : Nat) (h : w.heap[g]? = w'.heap[g]?) : (w.setCell a v).heap[g]? = (w'.setCell a v).heap[g]? := by
  simp only [World.setCell,Array.getElem?_modify,h]
theorem writes_local : ∀ (L : List Cel) (w w' : World) (k : Int) (g : Nat),w.heap[g]? = w'.heap[g]? → (writes w L k).heap[g]? = (writes w' L k).heap[g]?
  | [],w,w',k,g,h => h
  | c :: L,w,w',k,g,h => by
    rw [writes,writes]
    exact writes_local L _ _ _ g (set_heap _ _ _ _ _ h)
def WrB (w : World) (L : List Cel) (k : Int) (w' : World) : Prop := ∀ g,g < w.heap.size → w'.heap[g]? = (writes w L k).heap[g]?
theorem Wr.B (h : Wr w L k w') : WrB w L k w' := by
  obtain ⟨n,rfl⟩ := h
  exact fun g _ => rfl
theorem WrB.nil (hb : Below w.heap.size w w') : WrB w [] k w' := fun g hg => hb.block g hg
theorem WrB.trans (h : WrB w L k w1) (hs : w.heap.size ≤ w1.heap.size) (h2 : WrB w1 M k2 w2) (e : k2 = k + L.length) : WrB w (L ++ M) k w2 := fun g hg => by
  rw [h2 g (Nat.lt_of_lt_of_le hg hs),writes_append,e]
  exact writes_local M _ _ _ g (h g hg)
theorem WrB.held (h : WrB w L k w') (hc : ∀ c ∈ L,CellAt w c.1 c.2.1) (hn : (L.map addr2).Nodup) : HeldAt w' L k :=
  (held_writes L w k hc hn).of_heap (fun c hm => by
    obtain ⟨cs,t,h1,_⟩ := hc c hm
    exact h c.1 (blk_lt h1))
theorem Vis.cells : ∀ {t : Ty} {g o : Nat} {L : List Cel},Vis P w t g o L → ∀ c ∈ L,CellAt w c.1 c.2.1 ∧ (c.1 = g ∨ P c.1)
  | .int,g,o,L,h,c,hm => by
    obtain ⟨rfl,h2⟩ := h
    obtain rfl := List.mem_singleton.1 hm
    exact ⟨h2.at_,.inl rfl⟩
  | .bool,g,o,L,h,c,hm => by
    obtain ⟨rfl,h2⟩ := h
    obtain rfl := List.mem_singleton.1 hm
    exact ⟨h2.at_,.inl rfl⟩
  | .pair a b,g,o,L,⟨L1,L2,e,h1,h2⟩,c,hm => by
    subst e
    rcases List.mem_append.1 hm with hm | hm
    · exact Vis.cells h1 c hm
    · exact Vis.cells h2 c hm
  | .sl a,g,o,L,⟨A,n,cp,hs,hb,Ls,e,h⟩,c,hm => by
    subst e
    obtain ⟨i,hi,hm⟩ := List.mem_flatMap.1 hm
    rw [List.mem_range] at hi
    obtain ⟨g',e',hp,hv⟩ := h (by omega)
    obtain ⟨h1,h2⟩ := Vis.cells (hv i hi) c hm
    exact ⟨h1,.inr (h2.elim (fun e => e ▸ hp) id)⟩
theorem RowV.cells (h : RowV P w t A n L) : ∀ c ∈ L,CellAt w c.1 c.2.1 ∧ P c.1 := fun c hm => by
  obtain ⟨hb,Ls,e,h⟩ := h
  subst e
  obtain ⟨i,hi,hm⟩ := List.mem_flatMap.1 hm
  rw [List.mem_range] at hi
  obtain ⟨g',e',hp,hv⟩ := h (by omega)
  obtain ⟨h1,h2⟩ := Vis.cells (hv i hi) c hm
  exact ⟨h1,h2.elim (fun e => e ▸ hp) id⟩
theorem Vis.mono (hp : ∀ k,P k → Q k) : ∀ {t : Ty} {g o : Nat} {L : List Cel},Vis P w t g o L → Vis Q w t g o L
  | .int,_,_,_,h => h
  | .bool,_,_,_,h => h
  | .pair a b,_,_,_,⟨L1,L2,e,h1,h2⟩ => ⟨L1,L2,e,Vis.mono hp h1,Vis.mono hp h2⟩
  | .sl a,_,_,_,⟨A,n,c,hs,hb,Ls,e,h⟩ => ⟨A,n,c,hs,hb,Ls,e,fun hn => by
    obtain ⟨g',e',hp',hi⟩ := h hn
    exact ⟨g',e',hp _ hp',fun i hl => Vis.mono hp (hi i hl)⟩⟩
theorem RowV.mono (hp : ∀ k,P k → Q k) (h : RowV P w t A n L) : RowV Q w t A n L := by
  obtain ⟨hb,Ls,e,h⟩ := h
  exact ⟨hb,Ls,e,fun hn => by
    obtain ⟨g',e',hp',hi⟩ := h hn
    exact ⟨g',e',hp _ hp',fun i hl => Vis.mono hp (hi i hl)⟩⟩
end
structure Rep {α : Type} (d : Kd α) (T : Ty) (wt : α → Nat) : Prop where
  sz : d.sz = T.sz
  vis : ∀ {w : World} {base : Nat} {ok : Nat → Prop} {x : α} {cs : List Value},d.M w base ok x cs → ∀ (g o : Nat) (cells : Array Value) (t : TypeId),w.heap[g]? = some (.cells cells t (0,0)) → (∀ i u,cs[i]? = some u → cells[o + i]? = some u) → ∃ L,Vis ok w T g o L ∧ L.length = wt x
theorem Rep.int : Rep (Kd.int .i64) .int (fun _ => 1) := ⟨rfl,fun {w base ok x cs} hM g o cells t hb hc => by
  have e : cs = [.int .i64 x] := hM
  subst e
  exact ⟨_,⟨rfl,cells,t,x,hb,by simpa using hc 0 _ rfl⟩,rfl⟩⟩
theorem Rep.bool : Rep Kd.bool .bool (fun _ => 1) := ⟨rfl,fun {w base ok x cs} hM g o cells t hb hc => by
  have e : cs = [.bool x] := hM
  subst e
  exact ⟨_,⟨rfl,cells,t,x,hb,by simpa using hc 0 _ rfl⟩,rfl⟩⟩
theorem Rep.pair {α β : Type} {a : Kd α} {b : Kd β} {S T : Ty} {wa : α → Nat} {wb : β → Nat} (ha : Rep a S wa) (hb : Rep b T wb) : Rep (Kd.pair a b) (.pair S T) (fun x => wa x.1 + wb x.2) :=
  ⟨by show a.sz + b.sz = S.sz + T.sz;rw [ha.sz,hb.sz],fun {w base ok x cs} hM g o cells t hbk hc => by
    obtain ⟨c0,c1,rfl,h0,h1⟩ := hM
    have l0 : c0.length = S.sz := by rw [a.K_len (a.K_of_M h0),ha.sz]
    obtain ⟨L1,v1,e1⟩ := ha.vis h0 g o cells t hbk (fun i u hi => hc i u (by rw [List.getElem?_append_left (List.getElem?_eq_some_iff.1 hi).1];exact hi))
    obtain ⟨L2,v2,e2⟩ := hb.vis h1 g (o + S.sz) cells t hbk (fun i u hi => by
      have := hc (S.sz + i) u (by rw [List.getElem?_append_right (by omega),l0,Nat.add_sub_cancel_left];exact hi)
      rwa [← Nat.add_assoc] at this)
    exact ⟨L1 ++ L2,⟨L1,L2,rfl,v1,v2⟩,by rw [List.length_append,e1,e2]⟩⟩
theorem Rep.iso {α β : Type} {d : Kd α} {T : Ty} {wt : α → Nat} (h : Rep d T wt) (f : β → α) : Rep (Kd.iso d f) T (fun x => wt (f x)) := ⟨h.sz,fun {w base ok x cs} hM => h.vis hM⟩
def wsum {α : Type} (wt : α → Nat) : List α → Nat
  | [] => 0
  | x :: r => wt x + wsum wt r
theorem cat_len {α : Type} (wt : α → Nat) : ∀ (xs : List α) (Ls : Nat → List Cel),(∀ i x,xs[i]? = some x → (Ls i).length = wt x) → (cat Ls xs.length).length = wsum wt xs := by
  intro xs Ls h
  have key : ∀ n,n ≤ xs.length → (cat Ls n).length = wsum wt (xs.take n) := by
    intro n
    induction n with
    | zero => intro _;simp [cat,wsum]
    | succ n ih =>
      intro hn
      have hw : ∀ (a b : List α),wsum wt (a ++ b) = wsum wt a + wsum wt b := by
        intro a b
        induction a with
        | nil => simp [wsum]
        | cons y r ih => rw [List.cons_append,wsum,wsum,ih];omega
      rw [cat_succ,List.length_append,ih (by omega),List.take_succ_eq_append_getElem (show n < xs.length by omega),hw,h n xs[n] (List.getElem?_eq_getElem (by omega))]
      simp [wsum]
  rw [key xs.length (Nat.le_refl _),List.take_length]
theorem Rep.row {α : Type} {d : Kd α} {T : Ty} {wt : α → Nat} (h : Rep d T wt) {e : Nat} {w : World} {base : Nat} {ok : Nat → Prop} {v : Value} {xs : List α} (hR : d.R e w base ok v xs) :
    ∃ A c L,v = .slice A xs.length c ∧ RowV ok w T A xs.length L ∧ L.length = wsum wt xs := by
  obtain ⟨h0,inner,ho,hr⟩ := hR
  have ho2 := ho.2
  rcases ho2 with ⟨rfl,hn⟩ | ⟨g,cap,cur,rfl,hg,hh,hcap,hmax,hsz,htk⟩
  · obtain rfl := List.eq_nil_of_length_eq_zero hn
    exact ⟨none,0,[],rfl,⟨by simp,fun _ => [],rfl,fun h => absurd h (by simp)⟩,rfl⟩
  · have hmx : xs.length ≤ 9223372036854775807 := by have : cap ≤ 9223372036854775807 := hmax;omega
    have key : ∀ i x,xs[i]? = some x → ∃ L,Vis ok w T g (i * T.sz) L ∧ L.length = wt x := fun i x hi => by
      have hM := hr.2 i x hi
      have hil : i < xs.length := (List.getElem?_eq_some_iff.1 hi).1
      have hM2 := d.M_mono (ok' := ok) (fun k hk => hk.1) hM
      obtain ⟨L,v1,e1⟩ := h.vis hM2 g (i * T.sz) cur e hh (fun j u hj => by
        have hjl : j < d.sz := by
          have := (List.getElem?_eq_some_iff.1 hj).1
          rw [List.length_take] at this
          omega
        rw [List.getElem?_take,if_pos hjl,List.getElem?_drop,← htk] at hj
        have hlt : i * d.sz + j < xs.length * d.sz := by
          have : (i + 1) * d.sz ≤ xs.length * d.sz := Nat.mul_le_mul_right _ hil
          rw [Nat.add_mul,Nat.one_mul] at this
          omega
        rw [List.getElem?_take,if_pos hlt,Array.getElem?_toList] at hj
        rw [← h.sz]
        exact hj)
      exact ⟨L,v1,e1⟩
    classical
    have : ∃ Ls : Nat → List Cel,∀ i x,xs[i]? = some x → Vis ok w T g (i * T.sz) (Ls i) ∧ (Ls i).length = wt x := by
      refine ⟨fun i => if h : ∃ x,xs[i]? = some x then (key i h.choose h.choose_spec).choose else [],fun i x hi => ?_⟩
      have hex : ∃ x,xs[i]? = some x := ⟨x,hi⟩
      have ex : hex.choose = x := Option.some.inj (hex.choose_spec.symm.trans hi)
      simp only [dif_pos hex]
      have hs := (key i hex.choose hex.choose_spec).choose_spec
      exact ⟨hs.1,by rw [hs.2,ex]⟩
    obtain ⟨Ls,hLs⟩ := this
    refine ⟨some ⟨g,0,none⟩,cap,cat Ls xs.length,rfl,⟨hmx,Ls,rfl,fun _ => ⟨g,rfl,h0 g rfl,fun i hi => (hLs i xs[i] (List.getElem?_eq_getElem hi)).1⟩⟩,cat_len wt xs Ls (fun i x hi => (hLs i x hi).2)⟩
theorem Rep.slice {α : Type} {d : Kd α} {T : Ty} {wt : α → Nat} (h : Rep d T wt) (e : Nat) : Rep (Kd.slice e d) (.sl T) (wsum wt) :=
  ⟨rfl,fun {w base ok x cs} hM g o cells t hb hc => by
    obtain ⟨v,rfl,hR⟩ := hM
    obtain ⟨A,c,L,rfl,⟨hmx,Ls,e1,hrow⟩,hl⟩ := h.row hR
    exact ⟨L,⟨A,x.length,c,⟨cells,t,hb,by simpa using hc 0 _ rfl⟩,hmx,Ls,e1,hrow⟩,hl⟩⟩
end Go.Proofs.Ythbcnakmnbilhaa.Marks
namespace Go.Proofs.Ythbcnakmnbilhaa.LawKit
open Go.RowKit Go.Proofs.YthbcnakmnbilhaaW.PrintWords Go.Proofs.YthbcnakmnbilhaaW.PrintLast Go.Proofs.YthbcnakmnbilhaaW.PrintMore Go.Proofs.Ythbcnakmnbilhaa.Marks
set_option linter.unusedVariables false
set_option linter.unusedSimpArgs false
def St (lo hi : Nat) (Q : World → Prop) (W : World) : Prop := hi ≤ W.heap.size ∧ ∀ W' : World,(∀ g,lo ≤ g → g < hi → W'.heap[g]? = W.heap[g]?) → Q W'
section
variable {lo hi g o : Nat} {Q : World → Prop} {W W' : World} {P : Nat → Prop}
theorem St.now (h : St lo hi Q W) : Q W := h.2 W (fun _ _ _ => rfl)
theorem St.keep (h : St lo hi Q W) (hs : W.heap.size ≤ W'.heap.size) (hk : ∀ g,lo ≤ g → g < hi → W'.heap[g]? = W.heap[g]?) : St lo hi Q W' :=
  ⟨Nat.le_trans h.1 hs,fun W2 h2 => h.2 W2 (fun g h3 h4 => (h2 g h3 h4).trans (hk g h3 h4))⟩
theorem St.below (h : St lo hi Q W) (hb : Below W.heap.size W W') : St lo hi Q W' := h.keep hb.size (fun g _ h4 => hb.block g (Nat.lt_of_lt_of_le h4 h.1))
theorem St.drew (h : St lo hi Q W) : St lo hi Q W.drew := h.keep (Nat.le_refl _) (fun _ _ _ => rfl)
theorem St.drewN (h : St lo hi Q W) (n : Nat) : St lo hi Q (W.drewN n) := h.keep (Nat.le_refl _) (fun _ _ _ => rfl)
theorem St.set (h : St lo hi Q W) (hg : hi ≤ g) (v : Value) : St lo hi Q (W.setCell ⟨g,o,none⟩ v) :=
  h.keep (by simp [World.setCell]) (fun k _ h4 => Below.heap_setCell W ⟨g,o,none⟩ v k (by show k ≠ g;omega))
end
section
variable {α : Type} {d : Kd α} {e lo hi : Nat} {W : World} {A : Option Addr} {n c : Nat} {xs : List α}
theorem St.reads (h : St lo hi (fun w => Kd.R d e w lo (fun k => lo ≤ k ∧ k < hi) (.slice A xs.length c) xs) W) : d.C W A xs.length xs := (Kd.R_reads' h.now).2.2
end
end Go.Proofs.Ythbcnakmnbilhaa.LawKit
