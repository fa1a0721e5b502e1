/- A part of the proof that the law FnExactMachineNew holds for every input. -/
import Derived.Test.YtobachfngmpeiaaZFnExactMachineNewa5
namespace Go.Proofs.Ytobachfngmpeiaa.PFnExactMachineNew
open Go.RowKit Go.Proofs.YtobachfngmpeiaaW.PrintWords Go.Proofs.YtobachfngmpeiaaW.PrintLast Go.Proofs.YtobachfngmpeiaaW.PrintMore Go.Proofs.Ytobachfngmpeiaa.SepMark Go.Proofs.Ytobachfngmpeiaa.Marks
set_option linter.unusedVariables false
set_option linter.unusedSimpArgs false
def apair {α β : Type} (a : Kd α) (b : Kd β) : Kd (α × β) where
  sz := a.sz + b.sz
  E := a.E ++ b.E
  K := (Kd.pair a b).K
  M := fun w base ok x cs => ∃ oka okb : Nat → Prop, (∃ c0 c1, cs = c0 ++ c1 ∧ a.M w base oka x.1 c0 ∧ b.M w base okb x.2 c1) ∧ (∀ k, oka k → ok k) ∧ (∀ k, okb k → ok k) ∧ ∀ k, oka k → ¬ okb k
  K_len := (Kd.pair a b).K_len
  K_one := (Kd.pair a b).K_one
  K_below := (Kd.pair a b).K_below
  K_of_M := by
    rintro w base ok x cs ⟨oka, okb, ⟨c0, c1, rfl, h0, h1⟩, -⟩
    exact ⟨c0, c1, rfl, a.K_of_M h0, b.K_of_M h1⟩
  M_mono := by
    rintro w base ok ok' x cs hok ⟨oka, okb, h, ha, hb, hd⟩
    exact ⟨oka, okb, h, fun k hk => hok k (ha k hk), fun k hk => hok k (hb k hk), hd⟩
  M_bound := by
    rintro w base ok x cs ⟨oka, okb, ⟨c0, c1, rfl, h0, h1⟩, ha, hb, hd⟩
    refine ⟨_, _, ⟨c0, c1, rfl, a.M_bound h0, b.M_bound h1⟩, ?_, ?_, fun k h2 h3 => hd k h2.1 h3.1⟩
    · rintro k ⟨h2, h3, h4, q, hq, hc⟩
      exact ⟨ha k h2, h3, h4, q, List.mem_append_left _ hq, hc⟩
    · rintro k ⟨h2, h3, h4, q, hq, hc⟩
      exact ⟨hb k h2, h3, h4, q, List.mem_append_right _ hq, hc⟩
  M_move := by
    rintro w w1 base ok x cs hm ⟨oka, okb, ⟨c0, c1, rfl, h0, h1⟩, ha, hb, hd⟩
    exact ⟨oka, okb, ⟨c0, c1, rfl, a.M_move (fun k hk => hm k (ha k hk)) h0, b.M_move (fun k hk => hm k (hb k hk)) h1⟩, ha, hb, hd⟩
  M_lower := by
    rintro w base base' ok x cs hl ⟨oka, okb, ⟨c0, c1, rfl, h0, h1⟩, ha, hb, hd⟩
    exact ⟨oka, okb, ⟨c0, c1, rfl, a.M_lower hl h0, b.M_lower hl h1⟩, ha, hb, hd⟩
theorem apair_M {α β : Type} {a : Kd α} {b : Kd β} {w : World} {base : Nat} {ok : Nat → Prop} {x : α × β} {cs : List Value} (h : (apair a b).M w base ok x cs) : (Kd.pair a b).M w base ok x cs := by
  obtain ⟨oka, okb, ⟨c0, c1, rfl, h0, h1⟩, ha, hb, -⟩ := h
  exact ⟨c0, c1, rfl, a.M_mono ha h0, b.M_mono hb h1⟩
theorem RepN.apair {α β : Type} {a : Kd α} {b : Kd β} {S T : Ty} {wa : α → Nat} {wb : β → Nat} (ha : RepN a S wa) (hb : RepN b T wb) : RepN (apair a b) (.pair S T) (fun x => wa x.1 + wb x.2) :=
  ⟨by show a.sz + b.sz = S.sz + T.sz; rw [ha.sz, hb.sz], fun {w base ok x cs} hM g o cells t hg hbk hc => by
    obtain ⟨oka, okb, ⟨c0, c1, rfl, h0, h1⟩, hoa, hob, hdj⟩ := hM
    have l0 : c0.length = S.sz := by rw [a.K_len (a.K_of_M h0), ha.sz]
    obtain ⟨L1, v1, e1, n1, i1⟩ := ha.vis h0 g o cells t (fun h => hg (hoa g h)) hbk (fun i u hi => hc i u (by rw [List.getElem?_append_left (List.getElem?_eq_some_iff.1 hi).1]; exact hi))
    obtain ⟨L2, v2, e2, n2, i2⟩ := hb.vis h1 g (o + S.sz) cells t (fun h => hg (hob g h)) hbk (fun i u hi => by
      have := hc (S.sz + i) u (by rw [List.getElem?_append_right (by omega), l0, Nat.add_sub_cancel_left]; exact hi)
      rwa [← Nat.add_assoc] at this)
    refine ⟨L1 ++ L2, ⟨L1, L2, rfl, Vis.mono hoa v1, Vis.mono hob v2⟩, by rw [List.length_append, e1, e2], ?_, fun y hy => ?_⟩
    · rw [List.map_append]
      refine List.nodup_append.2 ⟨n1, n2, fun y hy z hz e => ?_⟩
      subst e
      rcases i1 y hy with ⟨p1, p2, p3⟩ | ⟨p1, p2⟩
      · rcases i2 y hz with ⟨q1, q2, q3⟩ | ⟨q1, q2⟩
        · omega
        · exact q1 p1
      · rcases i2 y hz with ⟨q1, q2, q3⟩ | ⟨q1, q2⟩
        · exact p1 q1
        · exact hdj _ p2 q2
    · rw [List.map_append, List.mem_append] at hy
      rcases hy with hy | hy
      · rcases i1 y hy with ⟨p1, p2, p3⟩ | ⟨p1, p2⟩
        · exact .inl ⟨p1, p2, by show y.2 < o + (S.sz + T.sz); omega⟩
        · exact .inr ⟨p1, hoa _ p2⟩
      · rcases i2 y hy with ⟨p1, p2, p3⟩ | ⟨p1, p2⟩
        · exact .inl ⟨p1, by omega, by show y.2 < o + (S.sz + T.sz); omega⟩
        · exact .inr ⟨p1, hob _ p2⟩⟩
def kS123 : Kd S123 := Kd.iso (Kd.pair (Kd.int .i64) (apair (Kd.slice 3 (Kd.int .i64)) (Kd.pair (Kd.slice 3 (Kd.int .i64)) (Kd.int .i64)))) (fun x : S123 => (x.f0, x.f1, x.f2, x.f3))
theorem kS123_mkM (w : World) (base : Nat) (ok oka okb : Nat → Prop) (x : S123) {v1 v2 : Value} (g1 : (Kd.int .i64).R 3 w base oka v1 x.f1) (g2 : (Kd.int .i64).R 3 w base okb v2 x.f2) (ha : ∀ k, oka k → ok k) (hb : ∀ k, okb k → ok k) (hd : ∀ k, oka k → ¬ okb k) : kS123.M w base ok x [.int .i64 x.f0, v1, v2, .int .i64 x.f3] :=
  ⟨[.int .i64 x.f0], [v1, v2, .int .i64 x.f3], rfl, rfl, oka, okb, ⟨[v1], [v2, .int .i64 x.f3], rfl, ⟨v1, rfl, g1⟩, ⟨[v2], [.int .i64 x.f3], rfl, ⟨v2, rfl, g2⟩, rfl⟩⟩, ha, hb, hd⟩
theorem S_core {w : World} {e base : Nat} {ok : Nat → Prop} {v : Value} {xs : List S123} (h : Kd.S kS123 e w base ok v xs) : Kd.S k123 e w base ok v xs := by
  obtain ⟨f, h0, inner, ho, hr⟩ := h
  refine ⟨f, h0, inner, ho, hr.imp_ (fun _ x hp => ?_)⟩
  obtain ⟨c0, c1, e1, h1, h2⟩ := hp
  exact ⟨c0, c1, e1, h1, apair_M h2⟩
abbrev Bx := Nat × Nat × Array Value
def nb : List Bx → Nat → Option Bx
  | [], _ => none
  | x :: _, 0 => some x
  | _ :: l, n + 1 => nb l n
def sb : List Bx → Nat → Array Value → List Bx
  | [], _, _ => []
  | x :: l, 0, c => (x.1, x.2.1, c) :: l
  | x :: l, n + 1, c => x :: sb l n c
def ids : List Bx → List Nat
  | [] => []
  | x :: l => x.1 :: ids l
def nt : List Bx → Nat → Prop
  | [], _ => True
  | x :: l, t => x.2.1 ≠ t ∧ nt l t
theorem nb_mem : ∀ {L : List Bx} {i : Nat} {x : Bx}, nb L i = some x → x ∈ L
  | _ :: _, 0, _, h => by cases h; exact .head _
  | _ :: _, _ + 1, _, h => .tail _ (nb_mem h)
theorem ids_of : ∀ {L : List Bx} {x : Bx}, x ∈ L → x.1 ∈ ids L
  | _ :: _, _, .head _ => .head _
  | _ :: _, _, .tail _ h => .tail _ (ids_of h)
theorem ids_sb : ∀ (L : List Bx) (i : Nat) (c : Array Value), ids (sb L i c) = ids L
  | [], _, _ => rfl
  | _ :: _, 0, _ => rfl
  | x :: l, n + 1, c => congrArg (x.1 :: ·) (ids_sb l n c)
theorem mem_sb : ∀ {L : List Bx} {i : Nat} {g t : Nat} {cs c : Array Value} {x : Bx}, nb L i = some (g, t, cs) → (ids L).Nodup → x ∈ sb L i c → x = (g, t, c) ∨ (x ∈ L ∧ x.1 ≠ g)
  | y :: l, 0, g, t, cs, c, x, h, hd, hx => by
    have hd' : y.1 ∉ ids l ∧ (ids l).Nodup := List.nodup_cons.mp hd
    cases h
    cases hx with
    | head => exact .inl rfl
    | tail _ hx => exact .inr ⟨.tail _ hx, fun e => hd'.1 (by have h_ := ids_of hx; rw [e] at h_; exact h_)⟩
  | y :: l, n + 1, g, t, cs, c, x, h, hd, hx => by
    have hd' : y.1 ∉ ids l ∧ (ids l).Nodup := List.nodup_cons.mp hd
    cases hx with
    | head => exact .inr ⟨.head _, fun e => hd'.1 (by have h_ := ids_of (nb_mem (L := l) (i := n) h); rw [e]; exact h_)⟩
    | tail _ hx =>
      rcases mem_sb (L := l) (i := n) h hd'.2 hx with e | ⟨h1, h2⟩
      · exact .inl e
      · exact .inr ⟨.tail _ h1, h2⟩
theorem nt_mem : ∀ {L : List Bx} {t : Nat} {x : Bx}, nt L t → x ∈ L → x.2.1 ≠ t
  | _ :: _, _, _, h, .head _ => h.1
  | _ :: _, _, _, h, .tail _ hx => nt_mem h.2 hx
theorem cel4 {W : World} {g t : Nat} {a b c d : Value} (h : W.heap[g]? = some (.cells #[a, b, c, d] t (0, 0))) : W.cell? ⟨g, 0, none⟩ = some a ∧ W.cell? ⟨g, 1, none⟩ = some b ∧ W.cell? ⟨g, 2, none⟩ = some c ∧ W.cell? ⟨g, 3, none⟩ = some d ∧ W.frozen? ⟨g, 0, none⟩ = false ∧ W.frozen? ⟨g, 1, none⟩ = false ∧ W.frozen? ⟨g, 2, none⟩ = false ∧ W.frozen? ⟨g, 3, none⟩ = false := ⟨(blk_cell h 0).trans rfl, (blk_cell h 1).trans rfl, (blk_cell h 2).trans rfl, (blk_cell h 3).trans rfl, blk_frozen h 0, blk_frozen h 1, blk_frozen h 2, blk_frozen h 3⟩
abbrev C4 (w : World) (g : Nat) (a b c d : Value) : Prop := w.cell? ⟨g, 0, none⟩ = some a ∧ w.cell? ⟨g, 1, none⟩ = some b ∧ w.cell? ⟨g, 2, none⟩ = some c ∧ w.cell? ⟨g, 3, none⟩ = some d
theorem cw4 {W : World} {g t : Nat} {a b c d : Value} (h : W.heap[g]? = some (.cells #[a, b, c, d] t (0, 0))) : C4 W g a b c d := ⟨(blk_cell h 0).trans rfl, (blk_cell h 1).trans rfl, (blk_cell h 2).trans rfl, (blk_cell h 3).trans rfl⟩
structure NM (w : World) (m0 s0 : Nat) (W : World) (vCd vCo vMe : Value) (cd : List (List S175)) (co : List S123) (me : List (List S170)) (L : List Bx) : Prop where
  Cd : Kd.S (sslice 175 k175) 125 W w.heap.size (fun k => k ∉ ids L ∧ k < s0) vCd cd
  Co : Kd.S kS123 123 W w.heap.size (fun k => (k ∉ ids L ∧ m0 ≤ k) ∧ k < s0) vCo co
  Me : Kd.S (sslice 170 k170) 171 W w.heap.size (fun k => k ∉ ids L ∧ k < m0) vMe me
  B : ∀ x ∈ L, W.heap[x.1]? = some (.cells x.2.2 x.2.1 (0, 0))
  F : ∀ g ∈ ids L, w.heap.size ≤ g ∧ g < s0
  D : (ids L).Nodup
  A : Below w.heap.size w W
  m : m0 ≤ s0
  s : s0 ≤ W.heap.size
namespace NM
variable {w W W' : World} {m0 s0 g t i j : Nat} {vCd vCo vMe : Value} {cd : List (List S175)} {co : List S123} {me : List (List S170)} {L : List Bx} {ks : Array Value}
theorem start (w : World) : NM w 0 w.heap.size w (.slice none 0 0) (.slice none 0 0) (.slice none 0 0) [] [] [] [] :=
  ⟨Kd.S_nil _ _ _ _ _, Kd.S_nil _ _ _ _ _, Kd.S_nil _ _ _ _ _, fun _ h => (nomatch h), fun _ h => (nomatch h), List.nodup_nil, Below.refl _ _, Nat.zero_le _, Nat.le_refl _⟩
theorem bk (O : NM w m0 s0 W vCd vCo vMe cd co me L) (i : Nat) (h : nb L i = some (g, t, ks)) : W.heap[g]? = some (.cells ks t (0, 0)) := O.B _ (nb_mem h)
theorem below (O : NM w m0 s0 W vCd vCo vMe cd co me L) (hb : Below W.heap.size W W') : NM w m0 s0 W' vCd vCo vMe cd co me L :=
  ⟨Kd.S_below O.Cd hb, Kd.S_below O.Co hb, Kd.S_below O.Me hb, fun x hx => blk_below (O.B x hx) hb, O.F, O.D, Below.trans O.A (hb.mono (below_size O.A)), O.m, Nat.le_trans O.s (below_size hb)⟩
theorem drew (O : NM w m0 s0 W vCd vCo vMe cd co me L) : NM w m0 s0 W.drew vCd vCo vMe cd co me L := O.below (below_drew (Below.refl _ _))
theorem alloc (O : NM w m0 s0 W vCd vCo vMe cd co me L) (o : Obj) : NM w m0 s0 (W.alloc o) vCd vCo vMe cd co me L := O.below (below_alloc (Below.refl _ _) o)
theorem box (O : NM w m0 s0 W vCd vCo vMe cd co me L) (hg : g = W.heap.size) (hbox : W'.heap[g]? = some (.cells ks t (0, 0))) (hb : Below W.heap.size W W') : NM w m0 W'.heap.size W' vCd vCo vMe cd co me ((g, t, ks) :: L) := by
  have hlt := blk_lt hbox
  have hs := below_size hb
  have nm : ∀ k, k ∉ ids L → k < W.heap.size → k ∉ g :: ids L := fun k h1 h2 h3 => by
    rcases List.mem_cons.1 h3 with rfl | h3
    · omega
    · exact h1 h3
  have hsz := O.s
  exact ⟨Kd.S_mono (Kd.S_below (Kd.S_bound O.Cd) hb) (fun k hk => ⟨nm k hk.1.1 hk.2.2.1, by have := hk.1.2; omega⟩),
    Kd.S_mono (Kd.S_below (Kd.S_bound O.Co) hb) (fun k hk => ⟨⟨nm k hk.1.1.1 hk.2.2.1, hk.1.1.2⟩, by have := hk.1.2; omega⟩),
    Kd.S_mono (Kd.S_below (Kd.S_bound O.Me) hb) (fun k hk => ⟨nm k hk.1.1 hk.2.2.1, hk.1.2⟩),
    fun x hx => by
      cases hx with
      | head => exact hbox
      | tail _ hx => exact blk_below (O.B x hx) hb, fun q hq => by
      cases hq with
      | head => exact ⟨by rw [hg]; exact below_size O.A, hlt⟩
      | tail _ hq => exact ⟨(O.F q hq).1, by have := (O.F q hq).2; omega⟩,
    List.nodup_cons.mpr ⟨fun h => by have := (O.F _ h).2; omega, O.D⟩, Below.trans O.A (hb.mono (below_size O.A)), by have := O.m; omega, Nat.le_refl _⟩
theorem mem {ok : Nat → Prop} {vM0 : Value} {me0 : List (List S170)} (O : NM w m0 s0 W vCd (.slice none 0 0) vM0 cd [] me0 L) (hb : Below W.heap.size W W') (hS : Kd.S (sslice 170 k170) 171 W' W.heap.size ok vMe me) : NM w W'.heap.size W'.heap.size W' vCd (.slice none 0 0) vMe cd [] me L := by
  have hs := below_size hb
  have hsz := O.s
  exact ⟨Kd.S_mono (Kd.S_below O.Cd hb) (fun k hk => ⟨hk.1, by have := hk.2; omega⟩), Kd.S_nil _ _ _ _ _,
    Kd.S_lower (Kd.S_mono (Kd.S_bound hS) (fun k hk => ⟨fun h => by have := (O.F k h).2; have := hk.2.1; omega, hk.2.2.1⟩)) (below_size O.A),
    fun x hx => blk_below (O.B x hx) hb, fun q hq => ⟨(O.F q hq).1, by have := (O.F q hq).2; omega⟩, O.D, Below.trans O.A (hb.mono (below_size O.A)), Nat.le_refl _, Nat.le_refl _⟩
theorem since {v : Value} (O : NM w m0 s0 W vCd vCo vMe cd co me L) (hv : ∀ k, v.ownBlock = some k → s0 ≤ k) (hg : W.grownBy W' v.ownBlock) (hA : Below w.heap.size w W') : NM w m0 s0 W' vCd vCo vMe cd co me L := by
  have hm := O.m
  have st : ∀ k, k < s0 → k < W.heap.size → W'.heap[k]? = W.heap[k]? := fun k h1 h2 => hg.block k h2 (fun e => by have := hv k e.symm; omega)
  have hs := hg.size
  have hsz := O.s
  exact ⟨Kd.S_mono (Kd.S_move (Kd.S_bound O.Cd) (fun k hk => st k hk.1.2 hk.2.2.1)) (fun _ hk => hk.1), Kd.S_mono (Kd.S_move (Kd.S_bound O.Co) (fun k hk => st k hk.1.2 hk.2.2.1)) (fun _ hk => hk.1),
    Kd.S_mono (Kd.S_move (Kd.S_bound O.Me) (fun k hk => st k (Nat.lt_of_lt_of_le hk.1.2 hm) hk.2.2.1)) (fun _ hk => hk.1),
    fun x hx => (st x.1 (O.F _ (ids_of hx)).2 (blk_lt (O.B x hx))).trans (O.B x hx), O.F, O.D, hA, O.m, Nat.le_trans hsz hs⟩
theorem codes {vCd' : Value} {cd' : List (List S175)} (O : NM w m0 s0 W vCd vCo vMe cd co me L) (hS : Kd.S (sslice 175 k175) 125 W' w.heap.size (fun k => k ∉ ids L) vCd' cd') (hA : Below w.heap.size w W') (hg : W.grownBy W' vCd.ownBlock) (ht : nt L 125) : NM w m0 W'.heap.size W' vCd' vCo vMe cd' co me L := by
  have hs := hg.size
  have hsz := O.s
  exact ⟨Kd.S_mono (Kd.S_bound hS) (fun k hk => ⟨hk.1, hk.2.2.1⟩), Kd.S_mono (Kd.S_over' (v := vCd) O.Co (Kd.S_typed O.Cd) (by decide) hg) (fun k hk => ⟨hk.1, by have := hk.2; omega⟩), Kd.S_over' (v := vCd) O.Me (Kd.S_typed O.Cd) (by decide) hg,
    fun x hx => blk_grown (O.B x hx) hg (Kd.S_ne O.Cd (O.B x hx) (nt_mem ht hx).symm), fun q hq => ⟨(O.F q hq).1, by have := (O.F q hq).2; omega⟩, O.D, hA, by have := O.m; omega, Nat.le_refl _⟩
theorem cores {vCo' : Value} {co' : List S123} (O : NM w m0 s0 W vCd vCo vMe cd co me L) (hS : Kd.S kS123 123 W' w.heap.size (fun k => k ∉ ids L ∧ m0 ≤ k) vCo' co') (hA : Below w.heap.size w W') (hg : W.grownBy W' vCo.ownBlock) (ht : nt L 123) : NM w m0 W'.heap.size W' vCd vCo' vMe cd co' me L := by
  have hs := hg.size
  have hsz := O.s
  exact ⟨Kd.S_mono (Kd.S_over' (v := vCo) O.Cd (Kd.S_typed O.Co) (by decide) hg) (fun k hk => ⟨hk.1, by have := hk.2; omega⟩), Kd.S_mono (Kd.S_bound hS) (fun k hk => ⟨hk.1, hk.2.2.1⟩), Kd.S_over' (v := vCo) O.Me (Kd.S_typed O.Co) (by decide) hg,
    fun x hx => blk_grown (O.B x hx) hg (Kd.S_ne O.Co (O.B x hx) (nt_mem ht hx).symm), fun q hq => ⟨(O.F q hq).1, by have := (O.F q hq).2; omega⟩, O.D, hA, by have := O.m; omega, Nat.le_refl _⟩
theorem put (O : NM w m0 s0 W vCd vCo vMe cd co me L) (i j : Nat) {c' : Array Value} (h : nb L i = some (g, t, ks)) (u : Value) (hp : (W.setCell ⟨g, j, none⟩ u).heap[g]? = some (.cells c' t (0, 0))) : NM w m0 s0 (W.setCell ⟨g, j, none⟩ u) vCd vCo vMe cd co me (sb L i c') := by
  have hg := ids_of (nb_mem h)
  refine ⟨?_, ?_, ?_, fun q hq => ?_, by rw [ids_sb]; exact O.F, by rw [ids_sb]; exact O.D, O.A.setCell (p := ⟨g, j, none⟩) (O.F g hg).1 u, O.m, by simpa [World.setCell] using O.s⟩
  · rw [ids_sb]; exact Kd.S_far (p := ⟨g, j, none⟩) O.Cd (fun k hk e => hk.1 (by have e2 : k = g := e; rw [e2]; exact hg)) u
  · rw [ids_sb]; exact Kd.S_far (p := ⟨g, j, none⟩) O.Co (fun k hk e => hk.1.1 (by have e2 : k = g := e; rw [e2]; exact hg)) u
  · rw [ids_sb]; exact Kd.S_far (p := ⟨g, j, none⟩) O.Me (fun k hk e => hk.1 (by have e2 : k = g := e; rw [e2]; exact hg)) u
  · rcases mem_sb h O.D hq with rfl | ⟨h1, h2⟩
    · exact hp
    · exact blk_far (p := ⟨g, j, none⟩) (O.B q h1) h2 u
theorem put0 (O : NM w m0 s0 W vCd vCo vMe cd co me L) (i : Nat) {a b c d : Value} (h : nb L i = some (g, t, #[a, b, c, d])) (u : Value) : NM w m0 s0 (W.setCell ⟨g, 0, none⟩ u) vCd vCo vMe cd co me (sb L i #[u, b, c, d]) := O.put i 0 h u (blk_put (cs := #[a, b, c, d]) (O.bk i h) 0 u rfl)
theorem put1 (O : NM w m0 s0 W vCd vCo vMe cd co me L) (i : Nat) {a b c d : Value} (h : nb L i = some (g, t, #[a, b, c, d])) (u : Value) : NM w m0 s0 (W.setCell ⟨g, 1, none⟩ u) vCd vCo vMe cd co me (sb L i #[a, u, c, d]) := O.put i 1 h u (blk_put (cs := #[a, b, c, d]) (O.bk i h) 1 u rfl)
theorem put2 (O : NM w m0 s0 W vCd vCo vMe cd co me L) (i : Nat) {a b c d : Value} (h : nb L i = some (g, t, #[a, b, c, d])) (u : Value) : NM w m0 s0 (W.setCell ⟨g, 2, none⟩ u) vCd vCo vMe cd co me (sb L i #[a, b, u, d]) := O.put i 2 h u (blk_put (cs := #[a, b, c, d]) (O.bk i h) 2 u rfl)
theorem put3 (O : NM w m0 s0 W vCd vCo vMe cd co me L) (i : Nat) {a b c d : Value} (h : nb L i = some (g, t, #[a, b, c, d])) (u : Value) : NM w m0 s0 (W.setCell ⟨g, 3, none⟩ u) vCd vCo vMe cd co me (sb L i #[a, b, c, u]) := O.put i 3 h u (blk_put (cs := #[a, b, c, d]) (O.bk i h) 3 u rfl)
theorem nb_sb : ∀ {L : List Bx} {i : Nat} {g t : Nat} {ks c : Array Value}, nb L i = some (g, t, ks) → nb (sb L i c) i = some (g, t, c)
  | _ :: _, 0, _, _, _, _, h => by cases h; rfl
  | _ :: l, n + 1, _, _, _, _, h => nb_sb (L := l) (i := n) h
theorem sb_sb : ∀ (L : List Bx) (i : Nat) (c c' : Array Value), sb (sb L i c) i c' = sb L i c'
  | [], _, _, _ => rfl
  | _ :: _, 0, _, _ => rfl
  | x :: l, n + 1, c, c' => congrArg (x :: ·) (sb_sb l n c c')
theorem put4 (O : NM w m0 s0 W vCd vCo vMe cd co me L) (i : Nat) {a b c d : Value} (h : nb L i = some (g, t, #[a, b, c, d])) (x y z u : Value) : NM w m0 s0 ((((W.setCell ⟨g, 0, none⟩ x).setCell ⟨g, 1, none⟩ y).setCell ⟨g, 2, none⟩ z).setCell ⟨g, 3, none⟩ u) vCd vCo vMe cd co me (sb L i #[x, y, z, u]) := by
  have h0 := O.put0 i h x
  have e0 := nb_sb (c := #[x, b, c, d]) h
  have h1 := h0.put1 i e0 y
  rw [sb_sb] at h1
  have h2 := h1.put2 i (nb_sb (c := #[x, y, c, d]) h) z
  rw [sb_sb] at h2
  have h3 := h2.put3 i (nb_sb (c := #[x, y, z, d]) h) u
  rw [sb_sb] at h3
  exact h3
theorem okp (O : NM w m0 s0 W vCd vCo vMe cd co me L) : ∀ k, s0 ≤ k → k ∉ ids L ∧ some k ≠ vCd.ownBlock := fun k hk => ⟨fun h => by have := (O.F k h).2; omega, fun e => by have := ((Kd.S_R O.Cd).1 k e.symm).2; omega⟩
theorem okq (O : NM w m0 s0 W vCd vCo vMe cd co me L) : ∀ k, s0 ≤ k → (k ∉ ids L ∧ m0 ≤ k) ∧ some k ≠ vCo.ownBlock := fun k hk => ⟨⟨fun h => by have := (O.F k h).2; omega, Nat.le_trans O.m hk⟩, fun e => by have := ((Kd.S_R O.Co).1 k e.symm).2; omega⟩
theorem fr (O : NM w m0 s0 W vCd vCo vMe cd co me L) : ∀ k, W.heap.size ≤ k → k ∉ ids L := fun k hk h => by have := (O.F k h).2; have := O.s; omega
theorem fq (O : NM w m0 s0 W vCd vCo vMe cd co me L) : ∀ k, W.heap.size ≤ k → k ∉ ids L ∧ m0 ≤ k := fun k hk => ⟨O.fr k hk, by have := O.m; have := O.s; omega⟩
end NM
theorem St_newN {W W' : World} (top : Nat) (ht : top ≤ W.heap.size) (hs : W.heap.size ≤ W'.heap.size) : ∃ lo hi, top ≤ lo ∧ lo ≤ hi ∧ hi ≤ W'.heap.size ∧ (∀ (α : Type) (d : Kd α) (e : Nat) (v : Value) (xs : List α) (ok : Nat → Prop), Kd.R d e W' W.heap.size ok v xs → Go.Proofs.Ytobachfngmpeiaa.LawKit.St lo hi (fun w => Kd.R d e w lo (fun k => lo ≤ k ∧ k < hi) v xs) W') ∧
    ∀ (α : Type) (d : Kd α) (e : Nat) (v : Value) (xs : List α) (ok : Nat → Prop), Kd.N d e W' W.heap.size ok v xs → (∀ k, ok k → W.heap.size ≤ k) → Go.Proofs.Ytobachfngmpeiaa.LawKit.St lo hi (fun w => Kd.N d e w lo (fun k => lo ≤ k ∧ k < hi) v xs) W' :=
  ⟨W.heap.size, W'.heap.size, ht, hs, Nat.le_refl _, fun α d e v xs ok h => ⟨Nat.le_refl _, fun W2 h2 => Kd.R_step (Kd.R_mono (Kd.R_bound h) (fun k hk => ⟨hk.2.1, hk.2.2.1⟩)) (fun k hk _ => h2 k hk.1 hk.2)⟩,
    fun α d e v xs ok h hok => ⟨Nat.le_refl _, fun W2 h2 => Kd.N_step (Kd.N_mono (Kd.N_bound h) (fun k hk => ⟨hok k hk.1, hk.2⟩)) (fun k hk _ => h2 k hk.1 hk.2)⟩⟩
theorem St_readsN {α : Type} {d : Kd α} {e lo hi c : Nat} {W : World} {A : Option Addr} {xs : List α} (h : Go.Proofs.Ytobachfngmpeiaa.LawKit.St lo hi (fun w => Kd.N d e w lo (fun k => lo ≤ k ∧ k < hi) (.slice A xs.length c) xs) W) : d.C W A xs.length xs := (Kd.N_reads' h.now).2.2
theorem St_roomN {α : Type} {d : Kd α} {e lo hi c : Nat} {W : World} {A : Option Addr} {xs : List α} (h : Go.Proofs.Ytobachfngmpeiaa.LawKit.St lo hi (fun w => Kd.N d e w lo (fun k => lo ≤ k ∧ k < hi) (.slice A xs.length c) xs) W) : xs.length ≤ c := (Kd.N_reads' h.now).2.1
theorem hide_ {P : Prop} (h : ∀ G : Prop, Aside0 (P → G) → G) : P := h P ⟨id⟩
end Go.Proofs.Ytobachfngmpeiaa.PFnExactMachineNew
