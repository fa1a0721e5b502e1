/- A part of the proof that the law FnExactMachineNew holds for every input. -/
import Derived.Test.YtobachfngmpeiaaZFnExactMachineNewa4
namespace Go.Proofs.Ytobachfngmpeiaa.SepMark
open Go.RowKit Go.Proofs.YtobachfngmpeiaaW.PrintWords Go.Proofs.YtobachfngmpeiaaW.PrintLast Go.Proofs.YtobachfngmpeiaaW.PrintMore Go.Proofs.Ytobachfngmpeiaa.Marks Go.Proofs.Ytobachfngmpeiaa.LawKit
set_option linter.unusedVariables false
set_option linter.unusedSimpArgs false
def In2 (ok : Nat → Prop) (g o n : Nat) (L : List Cel) : Prop := ∀ a ∈ L.map addr2, (a.1 = g ∧ o ≤ a.2 ∧ a.2 < o + n) ∨ (a.1 ≠ g ∧ ok a.1)
structure RepN {α : Type} (d : Kd α) (T : Ty) (wt : α → Nat) : Prop where
  sz : d.sz = T.sz
  vis : ∀ {w : World} {base : Nat} {ok : Nat → Prop} {x : α} {cs : List Value}, d.M w base ok x cs → ∀ (g o : Nat) (cells : Array Value) (t : TypeId), ¬ ok g → w.heap[g]? = some (.cells cells t (0, 0)) → (∀ i u, cs[i]? = some u → cells[o + i]? = some u) →
    ∃ L, Vis ok w T g o L ∧ L.length = wt x ∧ (L.map addr2).Nodup ∧ In2 ok g o T.sz L
def Flat {α : Type} (d : Kd α) (T : Ty) : Prop := ∀ {w : World} {ok : Nat → Prop} {g o : Nat} {L : List Cel}, Vis ok w T g o L → ∀ a ∈ L.map addr2, a.1 = g
theorem Flat.int : Flat (Kd.int .i64) .int := fun {w ok g o L} h a ha => by
  have e := h.1
  subst e
  have : a = addr2 (g, o, false) := by simpa using ha
  rw [this]
  rfl
theorem Flat.bool : Flat Kd.bool .bool := fun {w ok g o L} h a ha => by
  have e := h.1
  subst e
  have : a = addr2 (g, o, true) := by simpa using ha
  rw [this]
  rfl
theorem Flat.pair {α β : Type} {a : Kd α} {b : Kd β} {S T : Ty} (ha : Flat a S) (hb : Flat b T) : Flat (Kd.pair a b) (.pair S T) := fun {w ok g o L} h x hx => by
  obtain ⟨L1, L2, e, h1, h2⟩ := h
  subst e
  rw [List.map_append, List.mem_append] at hx
  exact hx.elim (ha h1 x) (hb h2 x)
theorem RepN.int : RepN (Kd.int .i64) .int (fun _ => 1) := ⟨rfl, fun {w base ok x cs} hM g o cells t hg hb hc => by
  have e : cs = [.int .i64 x] := hM
  subst e
  exact ⟨_, ⟨rfl, cells, t, x, hb, by simpa using hc 0 _ rfl⟩, rfl, by simp, fun a ha => by
    have : a = addr2 (g, o, false) := by simpa using ha
    rw [this]
    exact .inl ⟨rfl, Nat.le_refl _, Nat.lt_succ_self _⟩⟩⟩
theorem RepN.bool : RepN Kd.bool .bool (fun _ => 1) := ⟨rfl, fun {w base ok x cs} hM g o cells t hg hb hc => by
  have e : cs = [.bool x] := hM
  subst e
  exact ⟨_, ⟨rfl, cells, t, x, hb, by simpa using hc 0 _ rfl⟩, rfl, by simp, fun a ha => by
    have : a = addr2 (g, o, true) := by simpa using ha
    rw [this]
    exact .inl ⟨rfl, Nat.le_refl _, Nat.lt_succ_self _⟩⟩⟩
theorem RepN.pair {α β : Type} {a : Kd α} {b : Kd β} {S T : Ty} {wa : α → Nat} {wb : β → Nat} (ha : RepN a S wa) (hb : RepN b T wb) (hf : Flat a S ∨ Flat b T) : RepN (Kd.pair a b) (.pair S T) (fun x => wa x.1 + wb x.2) :=
  ⟨by show a.sz + b.sz = S.sz + T.sz; rw [ha.sz, hb.sz], fun {w base ok x cs} hM g o cells t hg hbk hc => by
    obtain ⟨c0, c1, rfl, h0, h1⟩ := hM
    have l0 : c0.length = S.sz := by rw [a.K_len (a.K_of_M h0), ha.sz]
    obtain ⟨L1, v1, e1, n1, i1⟩ := ha.vis h0 g o cells t hg hbk (fun i u hi => hc i u (by rw [List.getElem?_append_left (List.getElem?_eq_some_iff.1 hi).1]; exact hi))
    obtain ⟨L2, v2, e2, n2, i2⟩ := hb.vis h1 g (o + S.sz) cells t hg hbk (fun i u hi => by
      have := hc (S.sz + i) u (by rw [List.getElem?_append_right (by omega), l0, Nat.add_sub_cancel_left]; exact hi)
      rwa [← Nat.add_assoc] at this)
    refine ⟨L1 ++ L2, ⟨L1, L2, rfl, v1, v2⟩, by rw [List.length_append, e1, e2], ?_, fun y hy => ?_⟩
    · rw [List.map_append]
      refine List.nodup_append.2 ⟨n1, n2, fun y hy z hz e => ?_⟩
      subst e
      rcases i1 y hy with ⟨p1, p2, p3⟩ | ⟨p1, p2⟩
      · rcases i2 y hz with ⟨q1, q2, q3⟩ | ⟨q1, q2⟩
        · omega
        · exact q1 p1
      · rcases i2 y hz with ⟨q1, q2, q3⟩ | ⟨q1, q2⟩
        · exact p1 q1
        · exact hf.elim (fun h => p1 (h v1 y hy)) (fun h => q1 (h v2 y hz))
    · rw [List.map_append, List.mem_append] at hy
      rcases hy with hy | hy
      · rcases i1 y hy with ⟨p1, p2, p3⟩ | ⟨p1, p2⟩
        · exact .inl ⟨p1, p2, by show y.2 < o + (S.sz + T.sz); omega⟩
        · exact .inr ⟨p1, p2⟩
      · rcases i2 y hy with ⟨p1, p2, p3⟩ | ⟨p1, p2⟩
        · exact .inl ⟨p1, by omega, by show y.2 < o + (S.sz + T.sz); omega⟩
        · exact .inr ⟨p1, p2⟩⟩
theorem RepN.iso {α β : Type} {d : Kd α} {T : Ty} {wt : α → Nat} (h : RepN d T wt) (f : β → α) : RepN (Kd.iso d f) T (fun x => wt (f x)) := ⟨h.sz, fun {w base ok x cs} hM => h.vis hM⟩
theorem cat_nodup {ok : Nat → Prop} {g sz n : Nat} {Ls : Nat → List Cel} {f : Nat → Nat} (hn : ∀ i, i < n → ((Ls i).map addr2).Nodup) (hi : ∀ i, i < n → In2 (fun k => ok k ∧ f k = i) g (i * sz) sz (Ls i)) :
    ((cat Ls n).map addr2).Nodup ∧ ∀ a ∈ (cat Ls n).map addr2, (a.1 = g ∧ a.2 < n * sz) ∨ (a.1 ≠ g ∧ ok a.1 ∧ f a.1 < n) := by
  induction n with
  | zero => exact ⟨by simp [cat], by simp [cat]⟩
  | succ n ih =>
    obtain ⟨i1, i2⟩ := ih (fun i h => hn i (by omega)) (fun i h => hi i (by omega))
    have e : (n + 1) * sz = n * sz + sz := by rw [Nat.add_mul, Nat.one_mul]
    rw [cat_succ, List.map_append]
    refine ⟨List.nodup_append.2 ⟨i1, hn n (by omega), fun y hy z hz e => ?_⟩, fun y hy => ?_⟩
    · subst e
      rcases i2 y hy with ⟨p1, p2⟩ | ⟨p1, p2, p3⟩
      · rcases hi n (by omega) y hz with ⟨q1, q2, q3⟩ | ⟨q1, q2⟩
        · omega
        · exact q1 p1
      · rcases hi n (by omega) y hz with ⟨q1, q2, q3⟩ | ⟨q1, q2, q3⟩
        · exact p1 q1
        · omega
    · rcases List.mem_append.1 hy with hy | hy
      · rcases i2 y hy with ⟨p1, p2⟩ | ⟨p1, p2, p3⟩
        · exact .inl ⟨p1, by omega⟩
        · exact .inr ⟨p1, p2, by omega⟩
      · rcases hi n (by omega) y hy with ⟨q1, q2, q3⟩ | ⟨q1, q2, q3⟩
        · exact .inl ⟨q1, by omega⟩
        · exact .inr ⟨q1, q2, by omega⟩
theorem RepN.row {α : Type} {d : Kd α} {T : Ty} {wt : α → Nat} (h : RepN d T wt) {e : Nat} {w : World} {base : Nat} {ok : Nat → Prop} {v : Value} {xs : List α} (hS : Kd.S d e w base ok v xs) :
    ∃ A c L, v = .slice A xs.length c ∧ RowV ok w T A xs.length L ∧ L.length = wsum wt xs ∧ (L.map addr2).Nodup ∧ ∀ a ∈ L.map addr2, ok a.1 := by
  obtain ⟨f, h0, inner, ho, hr⟩ := hS
  have hl : xs.zipIdx.length = xs.length := List.length_zipIdx
  rw [hl] at ho
  have ho2 := ho.2
  rcases ho2 with ⟨rfl, hn⟩ | ⟨g, cap, cur, rfl, hg, hh, hcap, hmax, hsz, htk⟩
  · obtain rfl := List.eq_nil_of_length_eq_zero hn
    exact ⟨none, 0, [], rfl, ⟨by simp, fun _ => [], rfl, fun h => absurd h (by simp)⟩, rfl, by simp, by simp⟩
  · have hmx : xs.length ≤ 9223372036854775807 := by have : cap ≤ 9223372036854775807 := hmax; omega
    have key : ∀ i x, xs[i]? = some x → ∃ L, Vis ok w T g (i * T.sz) L ∧ L.length = wt x ∧ (L.map addr2).Nodup ∧ In2 (fun k => ok k ∧ f k = i) g (i * T.sz) T.sz L := fun i x hi => by
      have hM : d.M w base (fun k => (ok k ∧ some k ≠ some g) ∧ f k = i) x _ := hr.2 i (x, i) (Kd.zip_at hi)
      have hil : i < xs.length := (List.getElem?_eq_some_iff.1 hi).1
      obtain ⟨L, v1, e1, n1, i1⟩ := h.vis hM g (i * T.sz) cur e (fun hk => hk.1.2 rfl) hh (fun j u hj => by
        have hjl : j < d.sz := by
          have := (List.getElem?_eq_some_iff.1 hj).1
          rw [List.length_take] at this
          exact Nat.lt_of_lt_of_le this (Nat.min_le_left _ _)
        have hj2 : (inner.drop (i * d.sz))[j]? = some u := by
          rw [List.getElem?_take] at hj
          split at hj
          · exact hj
          · cases hj
        rw [List.getElem?_drop, ← htk] at hj2
        have hlt : i * d.sz + j < xs.length * d.sz := by
          have : (i + 1) * d.sz ≤ xs.length * d.sz := Nat.mul_le_mul_right _ hil
          rw [Nat.add_mul, Nat.one_mul] at this
          omega
        have hj3 : (cur.toList.take (xs.length * d.sz))[i * d.sz + j]? = some u := hj2
        rw [List.getElem?_take, if_pos hlt, Array.getElem?_toList] at hj3
        rw [← h.sz]
        exact hj3)
      exact ⟨L, Vis.mono (fun k hk => hk.1.1) v1, e1, n1, fun a ha => (i1 a ha).imp id (fun p => ⟨p.1, p.2.1.1, p.2.2⟩)⟩
    classical
    have : ∃ Ls : Nat → List Cel, ∀ i x, xs[i]? = some x → Vis ok w T g (i * T.sz) (Ls i) ∧ (Ls i).length = wt x ∧ ((Ls i).map addr2).Nodup ∧ In2 (fun k => ok k ∧ f k = i) g (i * T.sz) T.sz (Ls i) := by
      refine ⟨fun i => if h : ∃ x, xs[i]? = some x then (key i h.choose h.choose_spec).choose else [], fun i x hi => ?_⟩
      have hex : ∃ x, xs[i]? = some x := ⟨x, hi⟩
      have ex : hex.choose = x := Option.some.inj (hex.choose_spec.symm.trans hi)
      simp only [dif_pos hex]
      have hs := (key i hex.choose hex.choose_spec).choose_spec
      exact ⟨hs.1, by rw [hs.2.1, ex], hs.2.2⟩
    obtain ⟨Ls, hLs⟩ := this
    have get : ∀ i, (hi : i < xs.length) → _ := fun i hi => hLs i xs[i] (List.getElem?_eq_getElem hi)
    obtain ⟨c1, c2⟩ := cat_nodup (ok := ok) (g := g) (sz := T.sz) (n := xs.length) (Ls := Ls) (f := f) (fun i hi => (get i hi).2.2.1) (fun i hi => (get i hi).2.2.2)
    exact ⟨some ⟨g, 0, none⟩, cap, cat Ls xs.length, rfl, ⟨hmx, Ls, rfl, fun _ => ⟨g, rfl, h0 g rfl, fun i hi => (get i hi).1⟩⟩, cat_len wt xs Ls (fun i x hi => (hLs i x hi).2.1), c1,
      fun a ha => (c2 a ha).elim (fun p => p.1 ▸ h0 g rfl) (fun p => p.2.1)⟩
def Loose {α : Type} (d : Kd α) : Prop := ∀ {w : World} {base : Nat} {ok ok' : Nat → Prop} {x : α} {cs : List Value}, d.M w base ok x cs → d.M w base ok' x cs
theorem Loose.int : Loose (Kd.int .i64) := fun h => h
theorem Loose.bool : Loose Kd.bool := fun h => h
theorem Loose.pair {α β : Type} {a : Kd α} {b : Kd β} (ha : Loose a) (hb : Loose b) : Loose (Kd.pair a b) := fun h => by
  obtain ⟨c0, c1, e, h0, h1⟩ := h
  exact ⟨c0, c1, e, ha h0, hb h1⟩
theorem Loose.iso {α β : Type} {d : Kd α} (h : Loose d) (f : β → α) : Loose (Kd.iso d f) := fun hM => h hM
theorem Loose.S {α : Type} {d : Kd α} (h : Loose d) {e : Nat} {w : World} {base : Nat} {ok : Nat → Prop} {v : Value} {xs : List α} (hR : d.R e w base ok v xs) : Kd.S d e w base ok v xs := by
  obtain ⟨h0, inner, ho, hr⟩ := hR
  have hl : xs.zipIdx.length = xs.length := List.length_zipIdx
  refine ⟨fun _ => 0, h0, inner, by rw [hl]; exact ho, by have := hr.1; rw [hl]; exact this, fun j p hj => ?_⟩
  have hp : xs[j]? = some p.1 := by
    rw [List.getElem?_zipIdx] at hj
    cases hx : xs[j]? with
    | none => rw [hx] at hj; cases hj
    | some y => rw [hx] at hj; obtain rfl := Option.some.inj hj; rfl
  exact h (hr.2 j p.1 hp)
theorem RepN.slice {α : Type} {d : Kd α} {T : Ty} {wt : α → Nat} (h : RepN d T wt) (hl : Loose d) (e : Nat) : RepN (Kd.slice e d) (.sl T) (wsum wt) :=
  ⟨rfl, fun {w base ok x cs} hM g o cells t hg hb hc => by
    obtain ⟨v, rfl, hR⟩ := hM
    obtain ⟨A, c, L, rfl, ⟨hmx, Ls, e1, hrow⟩, hl2, hn, hok⟩ := h.row (hl.S hR)
    exact ⟨L, ⟨A, x.length, c, ⟨cells, t, hb, by simpa using hc 0 _ rfl⟩, hmx, Ls, e1, hrow⟩, hl2, hn, fun a ha => .inr ⟨fun e2 => hg (e2 ▸ hok a ha), hok a ha⟩⟩⟩
def sslice {α : Type} (e : Nat) (d : Kd α) : Kd (List α) where
  sz := 1
  E := e :: d.E
  K := (Kd.slice e d).K
  M := fun w base ok xs cs => ∃ v, cs = [v] ∧ Kd.S d e w base ok v xs
  K_len := (Kd.slice e d).K_len
  K_one := (Kd.slice e d).K_one
  K_below := (Kd.slice e d).K_below
  K_of_M := by
    rintro w base ok x cs ⟨v, rfl, h⟩
    exact (Kd.slice e d).K_of_M ⟨v, rfl, Kd.S_R h⟩
  M_mono := by
    rintro w base ok ok' x cs hok ⟨v, rfl, h⟩
    exact ⟨v, rfl, Kd.S_mono h hok⟩
  M_bound := by
    rintro w base ok x cs ⟨v, rfl, h⟩
    exact ⟨v, rfl, Kd.S_bound h⟩
  M_move := by
    rintro w w1 base ok x cs hm ⟨v, rfl, h⟩
    exact ⟨v, rfl, Kd.S_move h hm⟩
  M_lower := by
    rintro w base base' ok x cs hb ⟨v, rfl, h⟩
    exact ⟨v, rfl, Kd.S_lower h hb⟩
theorem sslice_M {α : Type} {d : Kd α} {e : Nat} {w : World} {base : Nat} {ok : Nat → Prop} {xs : List α} {cs : List Value} (h : (sslice e d).M w base ok xs cs) : (Kd.slice e d).M w base ok xs cs := by
  obtain ⟨v, rfl, h⟩ := h
  exact ⟨v, rfl, Kd.S_R h⟩
theorem RepN.sslice {α : Type} {d : Kd α} {T : Ty} {wt : α → Nat} (h : RepN d T wt) (e : Nat) : RepN (SepMark.sslice e d) (.sl T) (wsum wt) :=
  ⟨rfl, fun {w base ok x cs} hM g o cells t hg hb hc => by
    obtain ⟨v, rfl, hR⟩ := hM
    obtain ⟨A, c, L, rfl, ⟨hmx, Ls, e1, hrow⟩, hl2, hn, hok⟩ := h.row hR
    exact ⟨L, ⟨A, x.length, c, ⟨cells, t, hb, by simpa using hc 0 _ rfl⟩, hmx, Ls, e1, hrow⟩, hl2, hn, fun a ha => .inr ⟨fun e2 => hg (e2 ▸ hok a ha), hok a ha⟩⟩⟩
theorem S_one {α : Type} {d : Kd α} {e : Nat} {w : World} {base : Nat} {ok : Nat → Prop} {v : Value} {x : α} (hR : d.R e w base ok v [x]) : Kd.S d e w base ok v [x] := by
  obtain ⟨h0, inner, ho, hr⟩ := hR
  refine ⟨fun _ => 0, h0, inner, ho, hr.1, fun j p hj => ?_⟩
  have h1 : j = 0 := by
    have := (List.getElem?_eq_some_iff.1 hj).1
    simpa using this
  subst h1
  obtain rfl : (x, 0) = p := Option.some.inj hj
  exact d.M_mono (fun k hk => ⟨hk, rfl⟩) (hr.2 0 x rfl)
theorem St.newS {W W' : World} (top : Nat) (ht : top ≤ W.heap.size) (hs : W.heap.size ≤ W'.heap.size) : ∃ lo hi, top ≤ lo ∧ lo ≤ hi ∧ hi ≤ W'.heap.size ∧ (∀ (α : Type) (d : Kd α) (e : Nat) (v : Value) (xs : List α) (ok : Nat → Prop), Kd.R d e W' W.heap.size ok v xs → St lo hi (fun w => Kd.R d e w lo (fun k => lo ≤ k ∧ k < hi) v xs) W') ∧
    ∀ (α : Type) (d : Kd α) (e : Nat) (v : Value) (xs : List α) (ok : Nat → Prop), Kd.S d e W' W.heap.size ok v xs → Kd.S d e W' lo (fun k => ok k ∧ lo ≤ k ∧ k < hi) v xs :=
  ⟨W.heap.size, W'.heap.size, ht, hs, Nat.le_refl _, fun α d e v xs ok h => ⟨Nat.le_refl _, fun W2 h2 => Kd.R_step (Kd.R_mono (Kd.R_bound h) (fun k hk => ⟨hk.2.1, hk.2.2.1⟩)) (fun k hk _ => h2 k hk.1 hk.2)⟩,
    fun α d e v xs ok h => Kd.S_mono (Kd.S_bound h) (fun k hk => ⟨hk.1, hk.2.1, hk.2.2.1⟩)⟩
theorem nodup_app {L M : List Cel} (hL : (L.map addr2).Nodup) (hM : (M.map addr2).Nodup) (hd : ∀ a ∈ L.map addr2, ∀ b ∈ M.map addr2, a.1 ≠ b.1) : ((L ++ M).map addr2).Nodup := by
  rw [List.map_append]
  exact List.nodup_append.2 ⟨hL, hM, fun a ha b hb e => hd a ha b hb (by rw [e])⟩
theorem S_Rs {α : Type} {d : Kd α} {e e' : Nat} {w : World} {base : Nat} {ok : Nat → Prop} {v : Value} {xs : List (List α)} (h : Kd.S (sslice e d) e' w base ok v xs) : (Kd.slice e d).R e' w base ok v xs := by
  obtain ⟨h0, inner, ho, hr⟩ := Kd.S_R h
  exact ⟨h0, inner, ho, hr.imp_ (fun _ _ hp => sslice_M hp)⟩
structure RepE {α : Type} (d : Kd α) (T : Ty) (wt : α → Nat) (p : α → Prop) : Prop where
  sz : d.sz = T.sz
  vis : ∀ {w : World} {base : Nat} {ok : Nat → Prop} {x : α} {cs : List Value}, d.M w base ok x cs → p x → ∀ (g o : Nat) (cells : Array Value) (t : TypeId), w.heap[g]? = some (.cells cells t (0, 0)) → (∀ i u, cs[i]? = some u → cells[o + i]? = some u) →
    ∃ L, Vis (fun k => k = g) w T g o L ∧ L.length = wt x ∧ (L.map addr2).Nodup ∧ ∀ a ∈ L.map addr2, a.1 = g ∧ o ≤ a.2 ∧ a.2 < o + T.sz
theorem RepE.int : RepE (Kd.int .i64) .int (fun _ => 1) (fun _ => True) := ⟨rfl, fun {w base ok x cs} hM _ g o cells t hb hc => by
  have e : cs = [.int .i64 x] := hM
  subst e
  exact ⟨_, ⟨rfl, cells, t, x, hb, by simpa using hc 0 _ rfl⟩, rfl, by simp, fun a ha => by
    have : a = addr2 (g, o, false) := by simpa using ha
    rw [this]
    exact ⟨rfl, Nat.le_refl _, Nat.lt_succ_self _⟩⟩⟩
theorem RepE.bool : RepE Kd.bool .bool (fun _ => 1) (fun _ => True) := ⟨rfl, fun {w base ok x cs} hM _ g o cells t hb hc => by
  have e : cs = [.bool x] := hM
  subst e
  exact ⟨_, ⟨rfl, cells, t, x, hb, by simpa using hc 0 _ rfl⟩, rfl, by simp, fun a ha => by
    have : a = addr2 (g, o, true) := by simpa using ha
    rw [this]
    exact ⟨rfl, Nat.le_refl _, Nat.lt_succ_self _⟩⟩⟩
theorem RepE.pair {α β : Type} {a : Kd α} {b : Kd β} {S T : Ty} {wa : α → Nat} {wb : β → Nat} {pa : α → Prop} {pb : β → Prop} (ha : RepE a S wa pa) (hb : RepE b T wb pb) : RepE (Kd.pair a b) (.pair S T) (fun x => wa x.1 + wb x.2) (fun x => pa x.1 ∧ pb x.2) :=
  ⟨by show a.sz + b.sz = S.sz + T.sz; rw [ha.sz, hb.sz], fun {w base ok x cs} hM hp g o cells t hbk hc => by
    obtain ⟨c0, c1, rfl, h0, h1⟩ := hM
    have l0 : c0.length = S.sz := by rw [a.K_len (a.K_of_M h0), ha.sz]
    obtain ⟨L1, v1, e1, n1, i1⟩ := ha.vis h0 hp.1 g o cells t hbk (fun i u hi => hc i u (by rw [List.getElem?_append_left (List.getElem?_eq_some_iff.1 hi).1]; exact hi))
    obtain ⟨L2, v2, e2, n2, i2⟩ := hb.vis h1 hp.2 g (o + S.sz) cells t hbk (fun i u hi => by
      have := hc (S.sz + i) u (by rw [List.getElem?_append_right (by omega), l0, Nat.add_sub_cancel_left]; exact hi)
      rwa [← Nat.add_assoc] at this)
    refine ⟨L1 ++ L2, ⟨L1, L2, rfl, v1, v2⟩, by rw [List.length_append, e1, e2], ?_, fun y hy => ?_⟩
    · rw [List.map_append]
      refine List.nodup_append.2 ⟨n1, n2, fun y hy z hz e => ?_⟩
      subst e
      have p1 := i1 y hy
      have p2 := i2 y hz
      omega
    · show y.1 = g ∧ o ≤ y.2 ∧ y.2 < o + (S.sz + T.sz)
      rw [List.map_append, List.mem_append] at hy
      rcases hy with hy | hy
      · have p1 := i1 y hy
        omega
      · have p2 := i2 y hy
        omega⟩
theorem RepE.iso {α β : Type} {d : Kd α} {T : Ty} {wt : α → Nat} {p : α → Prop} (h : RepE d T wt p) (f : β → α) : RepE (Kd.iso d f) T (fun x => wt (f x)) (fun x => p (f x)) := ⟨h.sz, fun {w base ok x cs} hM hp => h.vis hM hp⟩
theorem RepE.row {α : Type} {d : Kd α} {T : Ty} {wt : α → Nat} {p : α → Prop} (h : RepE d T wt p) {e : Nat} {w : World} {base : Nat} {ok : Nat → Prop} {v : Value} {xs : List α} (hR : d.R e w base ok v xs) (hp : ∀ x ∈ xs, p x) :
    ∃ A c L, v = .slice A xs.length c ∧ RowV ok w T A xs.length L ∧ L.length = wsum wt xs ∧ (L.map addr2).Nodup ∧ ∀ a ∈ L.map addr2, v.ownBlock = some a.1 := by
  obtain ⟨h0, inner, ho, hr⟩ := hR
  have ho2 := ho.2
  rcases ho2 with ⟨rfl, hn⟩ | ⟨g, cap, cur, rfl, hg, hh, hcap, hmax, hsz, htk⟩
  · obtain rfl := List.eq_nil_of_length_eq_zero hn
    exact ⟨none, 0, [], rfl, ⟨by simp, fun _ => [], rfl, fun h => absurd h (by simp)⟩, rfl, by simp, by simp⟩
  · have hmx : xs.length ≤ 9223372036854775807 := by have : cap ≤ 9223372036854775807 := hmax; omega
    have key : ∀ i x, xs[i]? = some x → ∃ L, Vis (fun k => k = g) w T g (i * T.sz) L ∧ L.length = wt x ∧ (L.map addr2).Nodup ∧ ∀ a ∈ L.map addr2, a.1 = g ∧ i * T.sz ≤ a.2 ∧ a.2 < i * T.sz + T.sz := fun i x hi => by
      have hM := hr.2 i x hi
      have hil : i < xs.length := (List.getElem?_eq_some_iff.1 hi).1
      exact h.vis hM (hp x (List.mem_of_getElem? hi)) g (i * T.sz) cur e hh (fun j u hj => by
        have hjl : j < d.sz := by
          have := (List.getElem?_eq_some_iff.1 hj).1
          rw [List.length_take] at this
          exact Nat.lt_of_lt_of_le this (Nat.min_le_left _ _)
        have hj2 : (inner.drop (i * d.sz))[j]? = some u := by
          rw [List.getElem?_take, if_pos hjl] at hj
          exact hj
        rw [List.getElem?_drop, ← htk] at hj2
        have hlt : i * d.sz + j < xs.length * d.sz := by
          have : (i + 1) * d.sz ≤ xs.length * d.sz := Nat.mul_le_mul_right _ hil
          rw [Nat.add_mul, Nat.one_mul] at this
          omega
        have hj3 : (cur.toList.take (xs.length * d.sz))[i * d.sz + j]? = some u := hj2
        rw [List.getElem?_take, if_pos hlt, Array.getElem?_toList] at hj3
        rw [← h.sz]
        exact hj3)
    classical
    have : ∃ Ls : Nat → List Cel, ∀ i x, xs[i]? = some x → Vis (fun k => k = g) w T g (i * T.sz) (Ls i) ∧ (Ls i).length = wt x ∧ ((Ls i).map addr2).Nodup ∧ ∀ a ∈ (Ls i).map addr2, a.1 = g ∧ i * T.sz ≤ a.2 ∧ a.2 < i * T.sz + T.sz := by
      refine ⟨fun i => if h : ∃ x, xs[i]? = some x then (key i h.choose h.choose_spec).choose else [], fun i x hi => ?_⟩
      have hex : ∃ x, xs[i]? = some x := ⟨x, hi⟩
      have ex : hex.choose = x := Option.some.inj (hex.choose_spec.symm.trans hi)
      simp only [dif_pos hex]
      have hs := (key i hex.choose hex.choose_spec).choose_spec
      exact ⟨hs.1, by rw [hs.2.1, ex], hs.2.2⟩
    obtain ⟨Ls, hLs⟩ := this
    have get : ∀ i, (hi : i < xs.length) → _ := fun i hi => hLs i xs[i] (List.getElem?_eq_getElem hi)
    obtain ⟨c1, c2⟩ := cat_nodup (ok := fun _ => False) (g := g) (sz := T.sz) (n := xs.length) (Ls := Ls) (f := fun _ => 0) (fun i hi => (get i hi).2.2.1) (fun i hi a ha => .inl ((get i hi).2.2.2 a ha))
    exact ⟨some ⟨g, 0, none⟩, cap, cat Ls xs.length, rfl, ⟨hmx, Ls, rfl, fun _ => ⟨g, rfl, h0 g rfl, fun i hi => Vis.mono (fun k hk => hk ▸ h0 g rfl) (get i hi).1⟩⟩, cat_len wt xs Ls (fun i x hi => (hLs i x hi).2.1), c1,
      fun a ha => (c2 a ha).elim (fun p => by rw [p.1]; rfl) (fun p => p.2.1.elim)⟩
theorem type_ne {w : World} {k q t : Nat} {cs ds : Array Value} (h1 : w.heap[k]? = some (.cells cs q (0, 0))) (h2 : w.heap[k]? = some (.cells ds t (0, 0))) (h : q ≠ t) : False := by
  rw [h1] at h2
  simp at h2
  exact h h2.2
end Go.Proofs.Ytobachfngmpeiaa.SepMark
