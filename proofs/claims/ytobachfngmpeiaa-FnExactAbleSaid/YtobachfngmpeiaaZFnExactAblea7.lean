/- Part of the proof of FnExactAble. -/
import Derived.Test.YtobachfngmpeiaaZFnExactAblea6
import Derived.Test.YtobachfngmpeiaaZFnExactAbles
set_option maxRecDepth 100000
namespace Go.Proofs.Ytobachfngmpeiaa.PFnExactAble
open Go.RowKit Go.Proofs.YtobachfngmpeiaaW.PrintWords Go.Proofs.YtobachfngmpeiaaW.PrintLast Go.Proofs.YtobachfngmpeiaaW.PrintMore
attribute [local go_sem] max2_int min2_int max_two min_two max_three min_three max_four min_four   -- for this text's walks alone
set_option linter.unusedVariables false
set_option linter.unusedSimpArgs false
def laws_szThreadS.l0 : Nat → List (S184) → Int → Int → Option (Int)
  | 0,_,_,_ => none
  | k + 1,x0,x1,x5 => if x5 < (x0.length : Int) then (if 0 ≤ x5 then ((laws_szThread.f ((rd_T184 x0 x5).f0) ((rd_T184 x0 x5).f1) ((rd_T184 x0 x5).f2) x1).bind fun t193 => (if t193 < 0 then (some (-1)) else (laws_szThreadS.l0 k x0 t193 (wrap64 (x5 + 1))))) else (none)) else (some x1)
def laws_szThreadS.f (k : Nat) (l0 : List (S184)) (a1 : Int) : Option (Int) := if (wrap64 (a1 - (l0.length : Int))) < 0 then (some (-1)) else (laws_szThreadS.l0 k l0 (wrap64 (a1 - (l0.length : Int))) 0)
set_option maxHeartbeats 8000000 in
theorem laws_szThreadS.calls (k : Nat) (A0 : Option Addr) (c0 : Nat) (l0 : List (S184)) (a1 : Int) (r : Int) (w : World) (hr0 : Kd.C k184 w A0 l0.length l0) (hc0 : l0.length ≤ c0) (h : laws_szThreadS.f k l0 a1 = some r) :
  Calls Try.prog 91 #[.slice A0 l0.length c0,.int .i64 a1] w fun e w' => e = .returned (.int .i64 r) ∧ Below w.heap.size w w' := by
 have hu184 := Try.underlying184
 have HR0 := aM_ hr0
 have HC0 := aM_ hc0
 clear hr0 hc0
 have HB := aM_ (Below.refl w.heap.size w)
 have H : (if (wrap64 (a1 - (l0.length : Int))) < 0 then (some (-1)) else (laws_szThreadS.l0 k l0 (wrap64 (a1 - (l0.length : Int))) 0)) = some r := h
 clear h
 by_cases c3 : (wrap64 (a1 - (l0.length : Int))) < 0
 ·rw [if_pos c3] at H
  have c3b0 : decide ((wrap64 (a1 - (l0.length : Int))) < 0) = true := decide_eq_true c3
  clear c3
  obtain rfl := sJ_ H
  go_enter Try.func91,Try.ntmps91
  go_wp2
  go_ret
  exact fI_ HB.out
 ·rw [if_neg c3] at H
  have c3b0 : decide ((wrap64 (a1 - (l0.length : Int))) < 0) = false := decide_eq_false c3
  clear c3
  have H' := aM_ H
  clear H
  go_enter Try.func91,Try.ntmps91
  go_wp2
  go_loopg [1,5] k (fun kq v1 v5 w' => ∃ (x1_1 : Int) (x5_1 : Int),v1 = .int .i64 x1_1 ∧ v5 = .int .i64 x5_1 ∧ Aside0 (laws_szThreadS.l0 kq l0 x1_1 x5_1 = some r) ∧ Aside0 (kq ≤ k) ∧ Aside0 (Below w.heap.size w w'))
  case atStart => exact ⟨(wrap64 (a1 - (l0.length : Int))),(0),(by first | rfl | (simp;done) | (simp [*];done)),(by first | rfl | (simp;done) | (simp [*];done)),H',⟨Nat.le_refl _⟩,⟨gW_ HB.out⟩⟩
  case round =>
   clear H'
   (try clear p2);(try clear c3);(try clear c3b0)
   obtain ⟨x1_1,x5_1,rfl,rfl,HA,HK1,HB⟩ := hrel
   cases gk with
   | zero => exact absurd HA.out (by simp [laws_szThreadS.l0])
   | succ k1 =>
    have H := HA.out
    clear HA
    simp only [laws_szThreadS.l0] at H
    by_cases c4 : x5_1 < (l0.length : Int)
    ·rw [if_pos c4] at H
     have c4b0 : decide (x5_1 < (l0.length : Int)) = true := decide_eq_true c4
     clear c4
     by_cases c5 : 0 ≤ x5_1
     ·rw [if_pos c5] at H
      have c5b0 : decide (0 ≤ x5_1) = true := decide_eq_true c5
      clear c5
      replace H := Option.bind_eq_some_iff.mp H
      obtain ⟨t193,A60,H⟩ := H
      replace H : (if t193 < 0 then (some (-1)) else (laws_szThreadS.l0 k1 l0 t193 (wrap64 (x5_1 + 1)))) = some r := H
      have A6 := aM_ A60
      clear A60
      by_cases c7 : t193 < 0
      ·rw [if_pos c7] at H
       have c7b0 : decide (t193 < 0) = true := decide_eq_true c7
       clear c7
       obtain rfl := sJ_ H
       have p192 : 0 ≤ (x5_1 : Int) := pD_
       have q192 : x5_1 < (l0.length : Int) := pD_
       obtain ⟨ad192,A192_1,c192_1,e192,hx192_0,hx192_1,hx192_2,hl192_1,hi192_1⟩ := at_T184 HR0.out x5_1 p192 q192
       cases e192
       replace hx192_0 := cB_ HB.out hx192_0
       replace hx192_1 := cB_ HB.out hx192_1
       replace hx192_2 := cB_ HB.out hx192_2
       have HR192_1 := aM_ hi192_1
       have HC192_1 := aM_ hl192_1
       clear hi192_1 hl192_1
       replace p192 := eq_true p192
       replace q192 := eq_true q192
       go_wp2_with (first | (refine gL_ (some 23) Try.func144 #[.agg #[.int .i64 ((rd_T184 l0 x5_1).f0),.slice A192_1 ((rd_T184 l0 x5_1).f1).length c192_1,.int .i64 ((rd_T184 l0 x5_1).f2)],.int .i64 x1_1] ?_;(with_reducible refine (laws_szThread.calls ((rd_T184 l0 x5_1).f0) _ _ ((rd_T184 l0 x5_1).f1) ((rd_T184 l0 x5_1).f2) x1_1 t193 _ ?side1 HC192_1.out A6.out).mono ?_);(case side1 => exact cS_ (Kd.C_below HR192_1.out HB.out));rintro e w8 ⟨rfl,hb⟩;refine ⟨_,rfl,?_⟩;replace HB := aM_ (sT_ HB.out hb)))
       go_ret
       exact fI_ HB.out
      ·rw [if_neg c7] at H
       have c7b0 : decide (t193 < 0) = false := decide_eq_false c7
       clear c7
       have H' := aM_ H
       clear H
       have p192 : 0 ≤ (x5_1 : Int) := pD_
       have q192 : x5_1 < (l0.length : Int) := pD_
       obtain ⟨ad192,A192_1,c192_1,e192,hx192_0,hx192_1,hx192_2,hl192_1,hi192_1⟩ := at_T184 HR0.out x5_1 p192 q192
       cases e192
       replace hx192_0 := cB_ HB.out hx192_0
       replace hx192_1 := cB_ HB.out hx192_1
       replace hx192_2 := cB_ HB.out hx192_2
       have HR192_1 := aM_ hi192_1
       have HC192_1 := aM_ hl192_1
       clear hi192_1 hl192_1
       replace p192 := eq_true p192
       replace q192 := eq_true q192
       go_wp2_with (first | (refine gL_ (some 23) Try.func144 #[.agg #[.int .i64 ((rd_T184 l0 x5_1).f0),.slice A192_1 ((rd_T184 l0 x5_1).f1).length c192_1,.int .i64 ((rd_T184 l0 x5_1).f2)],.int .i64 x1_1] ?_;(with_reducible refine (laws_szThread.calls ((rd_T184 l0 x5_1).f0) _ _ ((rd_T184 l0 x5_1).f1) ((rd_T184 l0 x5_1).f2) x1_1 t193 _ ?side1 HC192_1.out A6.out).mono ?_);(case side1 => exact cS_ (Kd.C_below HR192_1.out HB.out));rintro e w9 ⟨rfl,hb⟩;refine ⟨_,rfl,?_⟩;replace HB := aM_ (sT_ HB.out hb)))
       go_roundg k1
       case measure => have := HK1.out;omega
       case rel => exact ⟨(t193),(wrap64 (x5_1 + 1)),(by first | rfl | (simp;done) | (simp [*];done)),(by first | rfl | (simp;done) | (simp [*];done)),H',⟨by have := HK1.out;omega⟩,⟨gW_ HB.out⟩⟩
     ·rw [if_neg c5] at H
      exact absurd H (by simp)
    ·rw [if_neg c4] at H
     have c4b0 : decide (x5_1 < (l0.length : Int)) = false := decide_eq_false c4
     clear c4
     obtain rfl := sJ_ H
     go_wp2
     go_ret
     exact fI_ HB.out
def laws_szChan.f (a0_0 : Int) (l0_1 : List Int) (a0_2 : Bool) (a1 : Int) : Option (Int) := (laws_szIntS.f l0_1 a1).bind fun t195 => (if t195 < 0 then (some (-1)) else (some t195))
set_option maxHeartbeats 8000000 in
theorem laws_szChan.calls (a0_0 : Int) (A0_1 : Option Addr) (c0_1 : Nat) (l0_1 : List Int) (a0_2 : Bool) (a1 : Int) (r : Int) (w : World) (hr0_1 : Kd.C (Kd.int .i64) w A0_1 l0_1.length l0_1) (hc0_1 : l0_1.length ≤ c0_1) (h : laws_szChan.f a0_0 l0_1 a0_2 a1 = some r) :
  Calls Try.prog 145 #[.agg #[.int .i64 a0_0,.slice A0_1 l0_1.length c0_1,.bool a0_2],.int .i64 a1] w fun e w' => e = .returned (.int .i64 r) ∧ Below w.heap.size w w' := by
 have hu186 := Try.underlying186
 have HR0_1 := aM_ hr0_1
 have HC0_1 := aM_ hc0_1
 clear hr0_1 hc0_1
 have HB := aM_ (Below.refl w.heap.size w)
 have H : ((laws_szIntS.f l0_1 a1).bind fun t195 => (if t195 < 0 then (some (-1)) else (some t195))) = some r := h
 clear h
 replace H := Option.bind_eq_some_iff.mp H
 obtain ⟨t195,A30,H⟩ := H
 replace H : (if t195 < 0 then (some (-1)) else (some t195)) = some r := H
 have A3 := aM_ A30
 clear A30
 by_cases c4 : t195 < 0
 ·rw [if_pos c4] at H
  have c4b0 : decide (t195 < 0) = true := decide_eq_true c4
  clear c4
  obtain rfl := sJ_ H
  go_enter Try.func145,Try.ntmps145
  go_wp2_with (first | (refine bX_ 2 (cs := #[.int .i64 a0_0,.slice A0_1 l0_1.length c0_1,.bool a0_2]) (t := 186) ?_;intro gb194 hg w5 hbox hb;have BK194 := aM_ (hbox);have GE194 := aM_ (sZ_ hg HB.out);replace HB := aM_ (sT_ HB.out hb);clear hb hbox hg;have z_6 := bR3_ BK194.out) | (refine gL_ (some 8) Try.func58 #[.slice A0_1 l0_1.length c0_1,.int .i64 a1] ?_;(with_reducible refine (laws_szIntS.calls _ _ l0_1 a1 t195 _ ?side1 HC0_1.out A3.out).mono ?_);(case side1 => exact cS_ (Kd.C_below HR0_1.out HB.out));rintro e w' ⟨rfl,⟨nd,rfl⟩⟩;refine ⟨_,rfl,?_⟩))
  go_ret
  exact fI_ HB.out
 ·rw [if_neg c4] at H
  have c4b0 : decide (t195 < 0) = false := decide_eq_false c4
  clear c4
  obtain rfl := sJ_ H
  go_enter Try.func145,Try.ntmps145
  go_wp2_with (first | (refine bX_ 2 (cs := #[.int .i64 a0_0,.slice A0_1 l0_1.length c0_1,.bool a0_2]) (t := 186) ?_;intro gb194 hg w7 hbox hb;have BK194 := aM_ (hbox);have GE194 := aM_ (sZ_ hg HB.out);replace HB := aM_ (sT_ HB.out hb);clear hb hbox hg;have z_8 := bR3_ BK194.out) | (refine gL_ (some 8) Try.func58 #[.slice A0_1 l0_1.length c0_1,.int .i64 a1] ?_;(with_reducible refine (laws_szIntS.calls _ _ l0_1 a1 t195 _ ?side1 HC0_1.out A3.out).mono ?_);(case side1 => exact cS_ (Kd.C_below HR0_1.out HB.out));rintro e w' ⟨rfl,⟨nd,rfl⟩⟩;refine ⟨_,rfl,?_⟩))
  go_ret
  exact fI_ HB.out
def laws_szChanS.l0 : Nat → List (S186) → Int → Int → Option (Int)
  | 0,_,_,_ => none
  | k + 1,x0,x1,x5 => if x5 < (x0.length : Int) then (if 0 ≤ x5 then ((laws_szChan.f ((rd_T186 x0 x5).f0) ((rd_T186 x0 x5).f1) ((rd_T186 x0 x5).f2) x1).bind fun t197 => (if t197 < 0 then (some (-1)) else (laws_szChanS.l0 k x0 t197 (wrap64 (x5 + 1))))) else (none)) else (some x1)
def laws_szChanS.f (k : Nat) (l0 : List (S186)) (a1 : Int) : Option (Int) := if (wrap64 (a1 - (l0.length : Int))) < 0 then (some (-1)) else (laws_szChanS.l0 k l0 (wrap64 (a1 - (l0.length : Int))) 0)
set_option maxHeartbeats 8000000 in
theorem laws_szChanS.calls (k : Nat) (A0 : Option Addr) (c0 : Nat) (l0 : List (S186)) (a1 : Int) (r : Int) (w : World) (hr0 : Kd.C k186 w A0 l0.length l0) (hc0 : l0.length ≤ c0) (h : laws_szChanS.f k l0 a1 = some r) :
  Calls Try.prog 92 #[.slice A0 l0.length c0,.int .i64 a1] w fun e w' => e = .returned (.int .i64 r) ∧ Below w.heap.size w w' := by
 have hu186 := Try.underlying186
 have HR0 := aM_ hr0
 have HC0 := aM_ hc0
 clear hr0 hc0
 have HB := aM_ (Below.refl w.heap.size w)
 have H : (if (wrap64 (a1 - (l0.length : Int))) < 0 then (some (-1)) else (laws_szChanS.l0 k l0 (wrap64 (a1 - (l0.length : Int))) 0)) = some r := h
 clear h
 by_cases c3 : (wrap64 (a1 - (l0.length : Int))) < 0
 ·rw [if_pos c3] at H
  have c3b0 : decide ((wrap64 (a1 - (l0.length : Int))) < 0) = true := decide_eq_true c3
  clear c3
  obtain rfl := sJ_ H
  go_enter Try.func92,Try.ntmps92
  go_wp2
  go_ret
  exact fI_ HB.out
 ·rw [if_neg c3] at H
  have c3b0 : decide ((wrap64 (a1 - (l0.length : Int))) < 0) = false := decide_eq_false c3
  clear c3
  have H' := aM_ H
  clear H
  go_enter Try.func92,Try.ntmps92
  go_wp2
  go_loopg [1,5] k (fun kq v1 v5 w' => ∃ (x1_1 : Int) (x5_1 : Int),v1 = .int .i64 x1_1 ∧ v5 = .int .i64 x5_1 ∧ Aside0 (laws_szChanS.l0 kq l0 x1_1 x5_1 = some r) ∧ Aside0 (kq ≤ k) ∧ Aside0 (Below w.heap.size w w'))
  case atStart => exact ⟨(wrap64 (a1 - (l0.length : Int))),(0),(by first | rfl | (simp;done) | (simp [*];done)),(by first | rfl | (simp;done) | (simp [*];done)),H',⟨Nat.le_refl _⟩,⟨gW_ HB.out⟩⟩
  case round =>
   clear H'
   (try clear p2);(try clear c3);(try clear c3b0)
   obtain ⟨x1_1,x5_1,rfl,rfl,HA,HK1,HB⟩ := hrel
   cases gk with
   | zero => exact absurd HA.out (by simp [laws_szChanS.l0])
   | succ k1 =>
    have H := HA.out
    clear HA
    simp only [laws_szChanS.l0] at H
    by_cases c4 : x5_1 < (l0.length : Int)
    ·rw [if_pos c4] at H
     have c4b0 : decide (x5_1 < (l0.length : Int)) = true := decide_eq_true c4
     clear c4
     by_cases c5 : 0 ≤ x5_1
     ·rw [if_pos c5] at H
      have c5b0 : decide (0 ≤ x5_1) = true := decide_eq_true c5
      clear c5
      replace H := Option.bind_eq_some_iff.mp H
      obtain ⟨t197,A60,H⟩ := H
      replace H : (if t197 < 0 then (some (-1)) else (laws_szChanS.l0 k1 l0 t197 (wrap64 (x5_1 + 1)))) = some r := H
      have A6 := aM_ A60
      clear A60
      by_cases c7 : t197 < 0
      ·rw [if_pos c7] at H
       have c7b0 : decide (t197 < 0) = true := decide_eq_true c7
       clear c7
       obtain rfl := sJ_ H
       have p196 : 0 ≤ (x5_1 : Int) := pD_
       have q196 : x5_1 < (l0.length : Int) := pD_
       obtain ⟨ad196,A196_1,c196_1,e196,hx196_0,hx196_1,hx196_2,hl196_1,hi196_1⟩ := at_T186 HR0.out x5_1 p196 q196
       cases e196
       replace hx196_0 := cB_ HB.out hx196_0
       replace hx196_1 := cB_ HB.out hx196_1
       replace hx196_2 := cB_ HB.out hx196_2
       have HR196_1 := aM_ hi196_1
       have HC196_1 := aM_ hl196_1
       clear hi196_1 hl196_1
       replace p196 := eq_true p196
       replace q196 := eq_true q196
       go_wp2_with (first | (refine gL_ (some 23) Try.func145 #[.agg #[.int .i64 ((rd_T186 l0 x5_1).f0),.slice A196_1 ((rd_T186 l0 x5_1).f1).length c196_1,.bool ((rd_T186 l0 x5_1).f2)],.int .i64 x1_1] ?_;(with_reducible refine (laws_szChan.calls ((rd_T186 l0 x5_1).f0) _ _ ((rd_T186 l0 x5_1).f1) ((rd_T186 l0 x5_1).f2) x1_1 t197 _ ?side1 HC196_1.out A6.out).mono ?_);(case side1 => exact cS_ (Kd.C_below HR196_1.out HB.out));rintro e w8 ⟨rfl,hb⟩;refine ⟨_,rfl,?_⟩;replace HB := aM_ (sT_ HB.out hb)))
       go_ret
       exact fI_ HB.out
      ·rw [if_neg c7] at H
       have c7b0 : decide (t197 < 0) = false := decide_eq_false c7
       clear c7
       have H' := aM_ H
       clear H
       have p196 : 0 ≤ (x5_1 : Int) := pD_
       have q196 : x5_1 < (l0.length : Int) := pD_
       obtain ⟨ad196,A196_1,c196_1,e196,hx196_0,hx196_1,hx196_2,hl196_1,hi196_1⟩ := at_T186 HR0.out x5_1 p196 q196
       cases e196
       replace hx196_0 := cB_ HB.out hx196_0
       replace hx196_1 := cB_ HB.out hx196_1
       replace hx196_2 := cB_ HB.out hx196_2
       have HR196_1 := aM_ hi196_1
       have HC196_1 := aM_ hl196_1
       clear hi196_1 hl196_1
       replace p196 := eq_true p196
       replace q196 := eq_true q196
       go_wp2_with (first | (refine gL_ (some 23) Try.func145 #[.agg #[.int .i64 ((rd_T186 l0 x5_1).f0),.slice A196_1 ((rd_T186 l0 x5_1).f1).length c196_1,.bool ((rd_T186 l0 x5_1).f2)],.int .i64 x1_1] ?_;(with_reducible refine (laws_szChan.calls ((rd_T186 l0 x5_1).f0) _ _ ((rd_T186 l0 x5_1).f1) ((rd_T186 l0 x5_1).f2) x1_1 t197 _ ?side1 HC196_1.out A6.out).mono ?_);(case side1 => exact cS_ (Kd.C_below HR196_1.out HB.out));rintro e w9 ⟨rfl,hb⟩;refine ⟨_,rfl,?_⟩;replace HB := aM_ (sT_ HB.out hb)))
       go_roundg k1
       case measure => have := HK1.out;omega
       case rel => exact ⟨(t197),(wrap64 (x5_1 + 1)),(by first | rfl | (simp;done) | (simp [*];done)),(by first | rfl | (simp;done) | (simp [*];done)),H',⟨by have := HK1.out;omega⟩,⟨gW_ HB.out⟩⟩
     ·rw [if_neg c5] at H
      exact absurd H (by simp)
    ·rw [if_neg c4] at H
     have c4b0 : decide (x5_1 < (l0.length : Int)) = false := decide_eq_false c4
     clear c4
     obtain rfl := sJ_ H
     go_wp2
     go_ret
     exact fI_ HB.out
def laws_szNoteS.f (l0 : List (S190)) (a1 : Int) : Option (Int) := if (wrap64 (a1 - (l0.length : Int))) < 0 then (some (-1)) else (some (wrap64 (a1 - (l0.length : Int))))
set_option maxHeartbeats 8000000 in
theorem laws_szNoteS.calls (A0 : Option Addr) (c0 : Nat) (l0 : List (S190)) (a1 : Int) (r : Int) (w : World) (hr0 : Kd.C k190 w A0 l0.length l0) (hc0 : l0.length ≤ c0) (h : laws_szNoteS.f l0 a1 = some r) :
  Calls Try.prog 93 #[.slice A0 l0.length c0,.int .i64 a1] w fun e w' => e = .returned (.int .i64 r) ∧ Drawn0 w w' := by
 have HR0 := aM_ hr0
 have HC0 := aM_ hc0
 clear hr0 hc0
 have H : (if (wrap64 (a1 - (l0.length : Int))) < 0 then (some (-1)) else (some (wrap64 (a1 - (l0.length : Int))))) = some r := h
 clear h
 by_cases c3 : (wrap64 (a1 - (l0.length : Int))) < 0
 ·rw [if_pos c3] at H
  have c3b0 : decide ((wrap64 (a1 - (l0.length : Int))) < 0) = true := decide_eq_true c3
  clear c3
  obtain rfl := sJ_ H
  go_enter Try.func93,Try.ntmps93
  go_wp2
  go_ret
  exact ⟨by first | rfl | (simp;done) | (simp [*];done),by repeat (first | exact Drawn0.refl _ | apply Drawn0.step)⟩
 ·rw [if_neg c3] at H
  have c3b0 : decide ((wrap64 (a1 - (l0.length : Int))) < 0) = false := decide_eq_false c3
  clear c3
  obtain rfl := sJ_ H
  go_enter Try.func93,Try.ntmps93
  go_wp2
  go_ret
  exact ⟨by first | rfl | (simp;done) | (simp [*];done),by repeat (first | exact Drawn0.refl _ | apply Drawn0.step)⟩
def laws_szSource.f (k : Nat) (l0_0 : List (S184)) (l0_1 : List (S186)) (l0_2 : List (S190)) (a1 : Int) : Option (Int) := (laws_szThreadS.f k l0_0 a1).bind fun t199 => (if t199 < 0 then (some (-1)) else ((laws_szChanS.f k l0_1 t199).bind fun t200 => (if t200 < 0 then (some (-1)) else ((laws_szNoteS.f l0_2 t200).bind fun t201 => (if t201 < 0 then (some (-1)) else (some t201))))))
set_option maxHeartbeats 8000000 in
theorem laws_szSource.calls (k : Nat) (A0_0 : Option Addr) (c0_0 : Nat) (l0_0 : List (S184)) (A0_1 : Option Addr) (c0_1 : Nat) (l0_1 : List (S186)) (A0_2 : Option Addr) (c0_2 : Nat) (l0_2 : List (S190)) (a1 : Int) (r : Int) (w : World) (hr0_0 : Kd.C k184 w A0_0 l0_0.length l0_0) (hc0_0 : l0_0.length ≤ c0_0) (hr0_1 : Kd.C k186 w A0_1 l0_1.length l0_1) (hc0_1 : l0_1.length ≤ c0_1) (hr0_2 : Kd.C k190 w A0_2 l0_2.length l0_2) (hc0_2 : l0_2.length ≤ c0_2) (h : laws_szSource.f k l0_0 l0_1 l0_2 a1 = some r) :
  Calls Try.prog 33 #[.agg #[.slice A0_0 l0_0.length c0_0,.slice A0_1 l0_1.length c0_1,.slice A0_2 l0_2.length c0_2],.int .i64 a1] w fun e w' => e = .returned (.int .i64 r) ∧ Below w.heap.size w w' := by
 have hu72 := Try.underlying72
 have HR0_0 := aM_ hr0_0
 have HC0_0 := aM_ hc0_0
 clear hr0_0 hc0_0
 have HR0_1 := aM_ hr0_1
 have HC0_1 := aM_ hc0_1
 clear hr0_1 hc0_1
 have HR0_2 := aM_ hr0_2
 have HC0_2 := aM_ hc0_2
 clear hr0_2 hc0_2
 have HB := aM_ (Below.refl w.heap.size w)
 have H : ((laws_szThreadS.f k l0_0 a1).bind fun t199 => (if t199 < 0 then (some (-1)) else ((laws_szChanS.f k l0_1 t199).bind fun t200 => (if t200 < 0 then (some (-1)) else ((laws_szNoteS.f l0_2 t200).bind fun t201 => (if t201 < 0 then (some (-1)) else (some t201))))))) = some r := h
 clear h
 replace H := Option.bind_eq_some_iff.mp H
 obtain ⟨t199,A30,H⟩ := H
 replace H : (if t199 < 0 then (some (-1)) else ((laws_szChanS.f k l0_1 t199).bind fun t200 => (if t200 < 0 then (some (-1)) else ((laws_szNoteS.f l0_2 t200).bind fun t201 => (if t201 < 0 then (some (-1)) else (some t201)))))) = some r := H
 have A3 := aM_ A30
 clear A30
 by_cases c4 : t199 < 0
 ·rw [if_pos c4] at H
  have c4b0 : decide (t199 < 0) = true := decide_eq_true c4
  clear c4
  obtain rfl := sJ_ H
  go_enter Try.func33,Try.ntmps33
  go_wp2_with (first | (refine bX_ 2 (cs := #[.slice A0_0 l0_0.length c0_0,.slice A0_1 l0_1.length c0_1,.slice A0_2 l0_2.length c0_2]) (t := 72) ?_;intro gb198 hg w5 hbox hb;have BK198 := aM_ (hbox);have GE198 := aM_ (sZ_ hg HB.out);replace HB := aM_ (sT_ HB.out hb);clear hb hbox hg;have z_6 := bR3_ BK198.out) | (refine gL_ (some 8) Try.func91 #[.slice A0_0 l0_0.length c0_0,.int .i64 a1] ?_;(with_reducible refine (laws_szThreadS.calls k _ _ l0_0 a1 t199 _ ?side1 HC0_0.out A3.out).mono ?_);(case side1 => exact cS_ (Kd.C_below HR0_0.out HB.out));rintro e w7 ⟨rfl,hb⟩;refine ⟨_,rfl,?_⟩;replace BK198 := aM_ (nB_ BK198.out hb);replace HB := aM_ (sT_ HB.out hb)))
  go_ret
  exact fI_ HB.out
 ·rw [if_neg c4] at H
  have c4b0 : decide (t199 < 0) = false := decide_eq_false c4
  clear c4
  replace H := Option.bind_eq_some_iff.mp H
  obtain ⟨t200,A80,H⟩ := H
  replace H : (if t200 < 0 then (some (-1)) else ((laws_szNoteS.f l0_2 t200).bind fun t201 => (if t201 < 0 then (some (-1)) else (some t201)))) = some r := H
  have A8 := aM_ A80
  clear A80
  by_cases c9 : t200 < 0
  ·rw [if_pos c9] at H
   have c9b0 : decide (t200 < 0) = true := decide_eq_true c9
   clear c9
   obtain rfl := sJ_ H
   go_enter Try.func33,Try.ntmps33
   go_wp2_with (first | (refine bX_ 2 (cs := #[.slice A0_0 l0_0.length c0_0,.slice A0_1 l0_1.length c0_1,.slice A0_2 l0_2.length c0_2]) (t := 72) ?_;intro gb198 hg w10 hbox hb;have BK198 := aM_ (hbox);have GE198 := aM_ (sZ_ hg HB.out);replace HB := aM_ (sT_ HB.out hb);clear hb hbox hg;have z_11 := bR3_ BK198.out) | (refine gL_ (some 8) Try.func91 #[.slice A0_0 l0_0.length c0_0,.int .i64 a1] ?_;(with_reducible refine (laws_szThreadS.calls k _ _ l0_0 a1 t199 _ ?side1 HC0_0.out A3.out).mono ?_);(case side1 => exact cS_ (Kd.C_below HR0_0.out HB.out));rintro e w12 ⟨rfl,hb⟩;refine ⟨_,rfl,?_⟩;replace BK198 := aM_ (nB_ BK198.out hb);replace HB := aM_ (sT_ HB.out hb);have z_13 := bR3_ BK198.out) | (refine gL_ (some 14) Try.func92 #[.slice A0_1 l0_1.length c0_1,.int .i64 t199] ?_;(with_reducible refine (laws_szChanS.calls k _ _ l0_1 t199 t200 _ ?side1 HC0_1.out A8.out).mono ?_);(case side1 => exact cS_ (Kd.C_below HR0_1.out HB.out));rintro e w14 ⟨rfl,hb⟩;refine ⟨_,rfl,?_⟩;replace BK198 := aM_ (nB_ BK198.out hb);replace HB := aM_ (sT_ HB.out hb)))
   go_ret
   exact fI_ HB.out
  ·rw [if_neg c9] at H
   have c9b0 : decide (t200 < 0) = false := decide_eq_false c9
   clear c9
   replace H := Option.bind_eq_some_iff.mp H
   obtain ⟨t201,A150,H⟩ := H
   replace H : (if t201 < 0 then (some (-1)) else (some t201)) = some r := H
   have A15 := aM_ A150
   clear A150
   by_cases c16 : t201 < 0
   ·rw [if_pos c16] at H
    have c16b0 : decide (t201 < 0) = true := decide_eq_true c16
    clear c16
    obtain rfl := sJ_ H
    go_enter Try.func33,Try.ntmps33
    go_wp2_with (first | (refine bX_ 2 (cs := #[.slice A0_0 l0_0.length c0_0,.slice A0_1 l0_1.length c0_1,.slice A0_2 l0_2.length c0_2]) (t := 72) ?_;intro gb198 hg w17 hbox hb;have BK198 := aM_ (hbox);have GE198 := aM_ (sZ_ hg HB.out);replace HB := aM_ (sT_ HB.out hb);clear hb hbox hg;have z_18 := bR3_ BK198.out) | (refine gL_ (some 8) Try.func91 #[.slice A0_0 l0_0.length c0_0,.int .i64 a1] ?_;(with_reducible refine (laws_szThreadS.calls k _ _ l0_0 a1 t199 _ ?side1 HC0_0.out A3.out).mono ?_);(case side1 => exact cS_ (Kd.C_below HR0_0.out HB.out));rintro e w19 ⟨rfl,hb⟩;refine ⟨_,rfl,?_⟩;replace BK198 := aM_ (nB_ BK198.out hb);replace HB := aM_ (sT_ HB.out hb);have z_20 := bR3_ BK198.out) | (refine gL_ (some 14) Try.func92 #[.slice A0_1 l0_1.length c0_1,.int .i64 t199] ?_;(with_reducible refine (laws_szChanS.calls k _ _ l0_1 t199 t200 _ ?side1 HC0_1.out A8.out).mono ?_);(case side1 => exact cS_ (Kd.C_below HR0_1.out HB.out));rintro e w21 ⟨rfl,hb⟩;refine ⟨_,rfl,?_⟩;replace BK198 := aM_ (nB_ BK198.out hb);replace HB := aM_ (sT_ HB.out hb);have z_22 := bR3_ BK198.out) | (refine gL_ (some 20) Try.func93 #[.slice A0_2 l0_2.length c0_2,.int .i64 t200] ?_;(with_reducible refine (laws_szNoteS.calls _ _ l0_2 t200 t201 _ ?side1 HC0_2.out A15.out).mono ?_);(case side1 => exact cS_ (Kd.C_below HR0_2.out HB.out));rintro e w' ⟨rfl,⟨nd,rfl⟩⟩;refine ⟨_,rfl,?_⟩))
    go_ret
    exact fI_ HB.out
   ·rw [if_neg c16] at H
    have c16b0 : decide (t201 < 0) = false := decide_eq_false c16
    clear c16
    obtain rfl := sJ_ H
    go_enter Try.func33,Try.ntmps33
    go_wp2_with (first | (refine bX_ 2 (cs := #[.slice A0_0 l0_0.length c0_0,.slice A0_1 l0_1.length c0_1,.slice A0_2 l0_2.length c0_2]) (t := 72) ?_;intro gb198 hg w23 hbox hb;have BK198 := aM_ (hbox);have GE198 := aM_ (sZ_ hg HB.out);replace HB := aM_ (sT_ HB.out hb);clear hb hbox hg;have z_24 := bR3_ BK198.out) | (refine gL_ (some 8) Try.func91 #[.slice A0_0 l0_0.length c0_0,.int .i64 a1] ?_;(with_reducible refine (laws_szThreadS.calls k _ _ l0_0 a1 t199 _ ?side1 HC0_0.out A3.out).mono ?_);(case side1 => exact cS_ (Kd.C_below HR0_0.out HB.out));rintro e w25 ⟨rfl,hb⟩;refine ⟨_,rfl,?_⟩;replace BK198 := aM_ (nB_ BK198.out hb);replace HB := aM_ (sT_ HB.out hb);have z_26 := bR3_ BK198.out) | (refine gL_ (some 14) Try.func92 #[.slice A0_1 l0_1.length c0_1,.int .i64 t199] ?_;(with_reducible refine (laws_szChanS.calls k _ _ l0_1 t199 t200 _ ?side1 HC0_1.out A8.out).mono ?_);(case side1 => exact cS_ (Kd.C_below HR0_1.out HB.out));rintro e w27 ⟨rfl,hb⟩;refine ⟨_,rfl,?_⟩;replace BK198 := aM_ (nB_ BK198.out hb);replace HB := aM_ (sT_ HB.out hb);have z_28 := bR3_ BK198.out) | (refine gL_ (some 20) Try.func93 #[.slice A0_2 l0_2.length c0_2,.int .i64 t200] ?_;(with_reducible refine (laws_szNoteS.calls _ _ l0_2 t200 t201 _ ?side1 HC0_2.out A15.out).mono ?_);(case side1 => exact cS_ (Kd.C_below HR0_2.out HB.out));rintro e w' ⟨rfl,⟨nd,rfl⟩⟩;refine ⟨_,rfl,?_⟩))
    go_ret
    exact fI_ HB.out
def laws_toThread.f (k : Nat) (a0_0 : Int) (l0_1 : List Int) (a0_2 : Int) : Option (Int × List Int × Int) := (laws_toIntS.f k l0_1).bind fun t205 => (some (a0_0,t205,a0_2))
set_option maxHeartbeats 8000000 in
theorem laws_toThread.calls (k : Nat) (a0_0 : Int) (A0_1 : Option Addr) (c0_1 : Nat) (l0_1 : List Int) (a0_2 : Int) (r1 : Int) (r2 : List Int) (r3 : Int) (w : World) (hr0_1 : Kd.C (Kd.int .i64) w A0_1 l0_1.length l0_1) (hc0_1 : l0_1.length ≤ c0_1) (h : laws_toThread.f k a0_0 l0_1 a0_2 = some (r1,r2,r3)) :
  Calls Try.prog 147 #[.agg #[.int .i64 a0_0,.slice A0_1 l0_1.length c0_1,.int .i64 a0_2]] w fun e w' => ∃ v1_ : Value,e = .returned (.agg #[.int .i64 r1,v1_,.int .i64 r3]) ∧ Kd.R (Kd.int .i64) 3 w' w.heap.size (fun _ => True) v1_ r2 ∧ Below w.heap.size w w' := by
 have hu184 := Try.underlying184
 have hu107 := Try.underlying107
 have HR0_1 := aM_ hr0_1
 have HC0_1 := aM_ hc0_1
 clear hr0_1 hc0_1
 have HB := aM_ (Below.refl w.heap.size w)
 have H : ((laws_toIntS.f k l0_1).bind fun t205 => (some (a0_0,t205,a0_2))) = some (r1,r2,r3) := h
 clear h
 replace H := Option.bind_eq_some_iff.mp H
 obtain ⟨t205,A20,H⟩ := H
 replace H : (some (a0_0,t205,a0_2)) = some (r1,r2,r3) := H
 have A2 := aM_ A20
 clear A20
 simp only [Option.some.injEq,Prod.mk.injEq] at H
 obtain ⟨rfl,rfl,rfl⟩ := H
 go_enter Try.func147,Try.ntmps147
 go_wp2_with (first | (refine bX_ 1 (cs := #[.int .i64 a0_0,.slice A0_1 l0_1.length c0_1,.int .i64 a0_2]) (t := 184) ?_;intro gb202 hg w3 hbox hb;have BK202 := aM_ (hbox);have GE202 := aM_ (sZ_ hg HB.out);replace HB := aM_ (sT_ HB.out hb);clear hb hbox hg) | (refine bX_ 2 (cs := #[.int .i64 0,.slice none 0 0,.int .i64 0]) (t := 107) ?_;intro gb203 hg w4 hbox hb;have BK203 := aM_ (hbox);have GE203 := aM_ (sZ_ hg HB.out);have NB202_203 := aM_ (nL_ hg BK202.out);have NB203_202 := aM_ (nG_ hg BK202.out);replace BK202 := aM_ (nB_ BK202.out hb);replace HB := aM_ (sT_ HB.out hb);clear hb hbox hg) | (refine bX_ 3 (cs := #[.int .i64 0,.slice none 0 0,.int .i64 0]) (t := 107) ?_;intro gb204 hg w5 hbox hb;have BK204 := aM_ (hbox);have GE204 := aM_ (sZ_ hg HB.out);have NB202_204 := aM_ (nL_ hg BK202.out);have NB204_202 := aM_ (nG_ hg BK202.out);have NB203_204 := aM_ (nL_ hg BK203.out);have NB204_203 := aM_ (nG_ hg BK203.out);replace BK202 := aM_ (nB_ BK202.out hb);replace BK203 := aM_ (nB_ BK203.out hb);replace HB := aM_ (sT_ HB.out hb);clear hb hbox hg;have hnb6 := nn_ NB202_203 NB203_202;have hnb7 := nn_ NB202_204 NB204_202;have z_8 := bR3_ BK202.out;have hnb9 := nn_ NB204_203 NB203_204;have z_10 := bR3_ BK204.out) | (refine gL_ (some 9) Try.func61 #[.slice A0_1 l0_1.length c0_1] ?_;(with_reducible refine (laws_toIntS.calls k _ _ l0_1 t205 _ ?side1 HC0_1.out A2.out).mono ?_);(case side1 => exact Kd.C_below HR0_1.out (gB_ HB.out));rintro e w11 ⟨v206,rfl,ho0,hb⟩;refine ⟨_,rfl,?_⟩;have HO207 := aM_ (Kd.R_lower ho0 (below_size (gB_ HB.out)));replace BK202 := aM_ (nBf_ BK202.out hb);replace BK203 := aM_ (nBf_ BK203.out hb);replace BK204 := aM_ (blk_below (g := gb204) (o := .cells #[.int .i64 a0_0,.slice none 0 0,.int .i64 0] 107 (0,0)) (by (with_reducible repeat (first | refine bN_ ?_ _ | refine bD_ ?_ | refine bA_ ?_ _));refine blk_put (cs := #[.int .i64 0,.slice none 0 0,.int .i64 0]) ?_ 0 _ rfl;exact rW_ BK204.out) hb);replace HB := aM_ (sT_ HB.out hb);(try clear ho0);obtain ⟨Ao12,co12,eo12⟩ := Kd.R_slice HO207.out;subst eo12;have z_13 := bR3_ BK204.out;have z_14 := bR3_ BK202.out;have z_15 := bR3_ BK203.out))
 refine bodyPost_ret (results_cell_row rfl _ _ gb203 107 #[.int .i64 a0_0,.slice Ao12 t205.length co12,.int .i64 a0_2] (0,0) _ rfl (by (with_reducible repeat (first | refine bN_ ?_ _ | refine bD_ ?_ | refine bA_ ?_ _));refine blk_put (cs := #[.int .i64 a0_0,.slice Ao12 t205.length co12,.int .i64 0]) ?_ 2 _ rfl;refine blk_put (cs := #[.int .i64 a0_0,.slice none 0 0,.int .i64 0]) ?_ 1 _ rfl;refine blk_put (cs := #[.int .i64 0,.slice none 0 0,.int .i64 0]) ?_ 0 _ rfl;exact rWf_ BK203.out) Try.underlying107 rfl (by kernel_rfl)) rfl ?_
 exact ⟨_,fR_,by (with_reducible repeat (first | apply rA_ | apply rN_ | apply rD_));exact Kd.R_mono (RF3_ gb203 (Kd.R_far (p := ⟨gb204,2,none⟩) (Kd.R_far (p := ⟨gb204,1,none⟩) (Kd.R_types (Kd.R_types HO207.out BK204.out (by decide)) BK203.out (by decide)) (fun _ hk => hk.1.2) (.slice Ao12 t205.length co12)) (fun _ hk => hk.1.2) (.int .i64 a0_2)) (fun _ hk => hk.2) (.int .i64 a0_0) (.slice Ao12 t205.length co12) (.int .i64 a0_2)) (fun _ hk => trivial),gB_ HB.out⟩
def laws_toThreadS.l0 : Nat → List (S184) → List (S107) → Int → Option ((List (S107)))
  | 0,_,_,_ => none
  | k + 1,x0,x3,x4 => if x4 < (x0.length : Int) then (if 0 ≤ x4 then ((laws_toThread.f k ((rd_T184 x0 x4).f0) ((rd_T184 x0 x4).f1) ((rd_T184 x0 x4).f2)).bind fun bt212 => (if x4 < (x3.length : Int) then (laws_toThreadS.l0 k x0 (x3.set (x4 : Int).toNat (⟨bt212.1,bt212.2.1,bt212.2.2⟩ : S107)) (wrap64 (x4 + 1))) else (none))) else (none)) else (some x3)
def laws_toThreadS.f (k : Nat) (l0 : List (S184)) : Option ((List (S107))) := if 0 ≤ (l0.length : Int) then (if ((l0.length : Int) : Int).toNat ≤ 7036874417766 then (laws_toThreadS.l0 k l0 (List.replicate ((l0.length : Int) : Int).toNat z107) 0) else (none)) else (none)
set_option maxHeartbeats 8000000 in
theorem laws_toThreadS.calls (k : Nat) (A0 : Option Addr) (c0 : Nat) (l0 : List (S184)) (r : List (S107)) (w : World) (hr0 : Kd.C k184 w A0 l0.length l0) (hc0 : l0.length ≤ c0) (h : laws_toThreadS.f k l0 = some r) :
  Calls Try.prog 95 #[.slice A0 l0.length c0] w fun e w' => ∃ v0_ : Value,e = .returned (v0_) ∧ Kd.S k107 107 w' w.heap.size (fun _ => True) v0_ r ∧ Below w.heap.size w w' := by
 have hu184 := Try.underlying184
 have hu107 := Try.underlying107
 have HR0 := aM_ hr0
 have HC0 := aM_ hc0
 clear hr0 hc0
 have HB := aM_ (Below.refl w.heap.size w)
 have H : (if 0 ≤ (l0.length : Int) then (if ((l0.length : Int) : Int).toNat ≤ 7036874417766 then (laws_toThreadS.l0 k l0 (List.replicate ((l0.length : Int) : Int).toNat z107) 0) else (none)) else (none)) = some r := h
 clear h
 by_cases c2 : 0 ≤ (l0.length : Int)
 ·rw [if_pos c2] at H
  have c2b0 := eq_true c2
  have c2b1 : decide (0 ≤ (l0.length : Int)) = true := decide_eq_true c2
  clear c2
  by_cases c3 : ((l0.length : Int) : Int).toNat ≤ 7036874417766
  ·rw [if_pos c3] at H
   have c3b0 := eq_true c3
   have c3b1 : decide (((l0.length : Int) : Int).toNat ≤ 7036874417766) = true := decide_eq_true c3
   clear c3
   obtain ⟨y208,hy208⟩ : ∃ y_ : List (S107),y_ = (List.replicate ((l0.length : Int) : Int).toNat z107) := ⟨_,rfl⟩
   replace H : (laws_toThreadS.l0 k l0 y208 0) = some r := by first | (rw [hy208];with_reducible exact H) | (have H2_ := (Option.bind_some _ _).symm.trans H;rw [hy208];with_reducible exact H2_) | (have H2_ := (Option.bind_some _ _).symm.trans H;with_reducible exact H2_) | with_reducible exact H | (rw [hy208];exact H) | exact H
   have Ny208 := aM_ hy208
   clear hy208
   have H' := aM_ H
   clear H
   go_enter Try.func95,Try.ntmps95
   go_wp2_with (first | ((with_reducible refine gate_dst (N := 7) rfl ?_);refine Kd.S_make k107 _ 107 rfl (N := 7) rfl 24 _ _ rfl (l0.length : Int) rfl rfl Try.underlying24 (.agg #[(.int .i64 0),(.slice none 0 0),(.int .i64 0)]) 40 info107 rfl (by decide) (by omega) z107 (ok := fun _ => True) (okp := fun _ => True) (k107_mkM _ _ _ z107 (Kd.R_nil _ _ _ _ _)) (fun _ hk => hk) trivial (pD_) (Nat.le_trans (Nat.mul_le_mul_right _ (pD_ : (l0.length : Int).toNat ≤ 7036874417766)) (by omega)) (Below.refl _ _) (Nat.le_refl _) ?_;intro v209 w4 ho5 hb hg_ hnew_;clear hg_ hnew_;(first | rw [← Ny208.out] at ho5 | (simp only [Int.reduceToNat] at ho5;rw [← Ny208.out] at ho5));have HO210 := aM_ (Kd.S_lower ho5 (below_size (gB_ HB.out)));replace HB := aM_ (sT_ HB.out hb);clear hb ho5))
   go_loopg [4] k (fun kq v4 w' => ∃ (x3_1 : List (S107)) (x4_1 : Int),v4 = .int .i64 x4_1 ∧ Aside0 (laws_toThreadS.l0 kq l0 x3_1 x4_1 = some r) ∧ Aside0 (kq ≤ k) ∧ Aside0 (Kd.S k107 107 w' w.heap.size (fun _ => True) v209 x3_1) ∧ Aside0 (Below w.heap.size w w'))
   case atStart => exact ⟨(y208),(0),(by first | rfl | (simp;done) | (simp [*];done)),H',⟨Nat.le_refl _⟩,⟨by (with_reducible repeat (first | apply Kd.S_alloc | apply Kd.S_drewN | apply Kd.S_drew));exact HO210.out⟩,⟨gW_ HB.out⟩⟩
   case round =>
    clear H'
    (try clear c2);(try clear c2b0);(try clear c2b1);(try clear p2);(try clear c3);(try clear c3b0);(try clear c3b1)
    obtain ⟨x3_1,x4_1,rfl,HA,HK1,HO_3,HB⟩ := hrel
    cases gk with
    | zero => exact absurd HA.out (by simp [laws_toThreadS.l0])
    | succ k1 =>
     have H := HA.out
     clear HA
     simp only [laws_toThreadS.l0] at H
     by_cases c6 : x4_1 < (l0.length : Int)
     ·rw [if_pos c6] at H
      have c6b0 : decide (x4_1 < (l0.length : Int)) = true := decide_eq_true c6
      clear c6
      by_cases c7 : 0 ≤ x4_1
      ·rw [if_pos c7] at H
       have c7b0 : decide (0 ≤ x4_1) = true := decide_eq_true c7
       clear c7
       replace H := Option.bind_eq_some_iff.mp H
       obtain ⟨⟨t212,t213,t216⟩,A80,H⟩ := H
       replace H : (if x4_1 < (x3_1.length : Int) then (laws_toThreadS.l0 k1 l0 (x3_1.set (x4_1 : Int).toNat (⟨t212,t213,t216⟩ : S107)) (wrap64 (x4_1 + 1))) else (none)) = some r := H
       have A8 := aM_ A80
       clear A80
       by_cases c9 : x4_1 < (x3_1.length : Int)
       ·rw [if_pos c9] at H
        have c9b0 : decide (x4_1 < (x3_1.length : Int)) = true := decide_eq_true c9
        clear c9
        obtain ⟨y217,hy217⟩ : ∃ y_ : List (S107),y_ = (x3_1.set (x4_1 : Int).toNat (⟨t212,t213,t216⟩ : S107)) := ⟨_,rfl⟩
        replace H : (laws_toThreadS.l0 k1 l0 y217 (wrap64 (x4_1 + 1))) = some r := by first | (rw [hy217];with_reducible exact H) | (have H2_ := (Option.bind_some _ _).symm.trans H;rw [hy217];with_reducible exact H2_) | (have H2_ := (Option.bind_some _ _).symm.trans H;with_reducible exact H2_) | with_reducible exact H | (rw [hy217];exact H) | exact H
        have Ny217 := aM_ hy217
        clear hy217
        have H' := aM_ H
        clear H
        have p211 : 0 ≤ (x4_1 : Int) := pD_
        have q211 : x4_1 < (l0.length : Int) := pD_
        obtain ⟨ad211,A211_1,c211_1,e211,hx211_0,hx211_1,hx211_2,hl211_1,hi211_1⟩ := at_T184 HR0.out x4_1 p211 q211
        cases e211
        replace hx211_0 := cB_ HB.out hx211_0
        replace hx211_1 := cB_ HB.out hx211_1
        replace hx211_2 := cB_ HB.out hx211_2
        have HR211_1 := aM_ hi211_1
        have HC211_1 := aM_ hl211_1
        clear hi211_1 hl211_1
        replace p211 := eq_true p211
        replace q211 := eq_true q211
        go_wp2_with (first | (refine gL_ (some 20) Try.func147 #[.agg #[.int .i64 ((rd_T184 l0 x4_1).f0),.slice A211_1 ((rd_T184 l0 x4_1).f1).length c211_1,.int .i64 ((rd_T184 l0 x4_1).f2)]] ?_;(with_reducible refine (laws_toThread.calls k1 ((rd_T184 l0 x4_1).f0) _ _ ((rd_T184 l0 x4_1).f1) ((rd_T184 l0 x4_1).f2) t212 t213 t216 _ ?side1 HC211_1.out A8.out).mono ?_);(case side1 => exact cS_ (Kd.C_below HR211_1.out HB.out));rintro e w11 ⟨v214,rfl,ho0,hb⟩;refine ⟨_,rfl,?_⟩;have HO215 := aM_ (Kd.R_lower ho0 (below_size (gB_ HB.out)));replace HO_3 := aM_ (Kd.S_elder' (by (with_reducible repeat (first | apply Kd.S_alloc | apply Kd.S_drewN | apply Kd.S_drew));exact HO_3.out) (Kd.R_base ho0) hb);replace HB := aM_ (sT_ HB.out hb);(try clear ho0);have p10 : 0 ≤ (x4_1 : Int) := pD_;have q10 : (x4_1 : Int) < ((x3_1.length : Int) : Int) := pD_;obtain ⟨go10,co10,eo10,gb10,gl10,cl10,HG10⟩ := Kd.S_form HO_3.out (by omega);(first | cases eo10 | (injection eo10 with ea_ en_ ec_;(first | subst ea_ | (injection ea_ with ea_;subst ea_));subst ec_;clear en_));have GB10 := aM_ gb10;have GG10 := aM_ HG10;clear gb10 gl10 HG10;obtain ⟨_,ce10,hcl10,hM10,hcc10,hfr10,_,_⟩ := Kd.S_elem HO_3.out z107 (x4_1 : Int) p10 q10;obtain ⟨ve10_1,rfl,ge10_1⟩ := k107_openM hM10;have hx10_0 : w11.cell? ⟨go10,(x4_1 : Int).toNat * 3,none⟩ = some (.int .i64 ((rd_T107 x3_1 x4_1).f0)) := hcc10 0 _ rfl;have hx10_1 : w11.cell? ⟨go10,(x4_1 : Int).toNat * 3 + 1,none⟩ = some (ve10_1) := hcc10 1 _ rfl;have hx10_2 : w11.cell? ⟨go10,(x4_1 : Int).toNat * 3 + 2,none⟩ = some (.int .i64 ((rd_T107 x3_1 x4_1).f2)) := hcc10 2 _ rfl;have hf10_0 : w11.frozen? ⟨go10,(x4_1 : Int).toNat * 3,none⟩ = false := hfr10 0;have hf10_1 : w11.frozen? ⟨go10,(x4_1 : Int).toNat * 3 + 1,none⟩ = false := hfr10 1;have hf10_2 : w11.frozen? ⟨go10,(x4_1 : Int).toNat * 3 + 2,none⟩ = false := hfr10 2;(try clear hcl10);(try clear hcc10);(try clear hfr10);(try clear hM10);replace p10 := eq_true p10;replace q10 := eq_true q10;have n_ := aM_ (Kd.S_mono (ok' := (fun k_ => some k_ ≠ (v214 : Value).ownBlock)) HO_3.out (fun k_ hk => hk.2));clear HO_3;have HO_3 := n_;clear n_;have HX12 := aM_ (show Kd.S k107 107 w11 w.heap.size (fun k_ => ((fun _ => True)) k_ ∧ ¬ ((fun k_ => some k_ = (v214 : Value).ownBlock)) k_) (.slice (some ⟨go10,0,none⟩) x3_1.length co10) x3_1 from (by (with_reducible repeat (first | apply Kd.S_alloc | apply Kd.S_drewN | apply Kd.S_drew));exact Kd.S_mono HO_3.out (fun k_ hk => ⟨trivial,fun e_ => hk e_⟩)));obtain ⟨oki12,ce12,hcl12,hM12,hcc12,hfr12,hoki12,hH12⟩ := Kd.S_elem HX12.out z107 (x4_1 : Int) (pD_) (by have h_ : (x4_1 : Int) < ((x3_1.length : Int) : Int) := pD_;first | exact h_ | (have e_ := (Kd.S_reads' HO_3.out).1;omega) | simpa using h_);obtain ⟨ve12_1,rfl,ge12_1⟩ := k107_openM hM12;have HP12 := Kd.S_seg hH12 (pD_) (by have h_ : (x4_1 : Int) < ((x3_1.length : Int) : Int) := pD_;first | exact h_ | (have e_ := (Kd.S_reads' HO_3.out).1;omega) | simpa using h_) (seg := [.int .i64 t212,v214,.int .i64 t216]) (j := 0) (show 3 ≤ 3 from by decide) (x' := (⟨t212,t213,t216⟩ : S107)) (k107_mkM _ _ _ (⟨t212,t213,t216⟩ : S107) (Kd.R_mono (Kd.R_tight rfl (Kd.R_mono (ok' := fun k_ => ((fun _ => True)) k_ ∧ k_ ≠ go10) (Kd.R_apart' (HO215.out) (Kd.S_typed HO_3.out) (by decide)) (fun k_ hk => ⟨trivial,fun e_ => (hk.2) (by rw [e_];rfl)⟩))) (fun _ h_ => Or.inr (h_)))) (fun _ hk => hk) (fun k_ hk_ => ((Kd.R_mono (ok' := fun k_ => ((fun _ => True)) k_ ∧ k_ ≠ go10) (Kd.R_apart' (HO215.out) (Kd.S_typed HO_3.out) (by decide)) (fun k_ hk => ⟨trivial,fun e_ => (hk.2) (by rw [e_];rfl)⟩))).1 k_ hk_.symm);have hx12_0 := hcc12 0 _ rfl;(try simp only [show (k107).sz = 3 from rfl,Nat.mul_one,Nat.add_zero] at hx12_0);have hf12_0 := hfr12 0;(try simp only [show (k107).sz = 3 from rfl,Nat.mul_one,Nat.add_zero] at hf12_0);have hx12_1 := hcc12 1 _ rfl;(try simp only [show (k107).sz = 3 from rfl,Nat.mul_one,Nat.add_zero] at hx12_1);have hf12_1 := hfr12 1;(try simp only [show (k107).sz = 3 from rfl,Nat.mul_one,Nat.add_zero] at hf12_1);have hx12_2 := hcc12 2 _ rfl;(try simp only [show (k107).sz = 3 from rfl,Nat.mul_one,Nat.add_zero] at hx12_2);have hf12_2 := hfr12 2;(try simp only [show (k107).sz = 3 from rfl,Nat.mul_one,Nat.add_zero] at hf12_2);(try clear hcl12);(try clear hcc12);(try clear hfr12);(try clear hM12);(try clear hoki12);(try clear hH12)) | ((with_reducible refine gate_store (t := 107) (p := 21) rfl ?_);refine store_event (t := 107) (p := 21) (v := ?vo_w13) (w1 := (((w11.setCell ⟨go10,(x4_1 : Int).toNat * 3,none⟩ (.int .i64 t212)).setCell ⟨go10,(x4_1 : Int).toNat * 3 + 1,none⟩ (v214)).setCell ⟨go10,(x4_1 : Int).toNat * 3 + 2,none⟩ (.int .i64 t216))) ?hg ?ho ?hn ?hr ?_;(case ho => rfl);(case hg => rfl);(case hn => rfl);(case hr => first | (go_simp;done) | (go_simp;rfl) | (obtain ⟨_,_,e_⟩ := Kd.R_slice HO215.out;rw [e_];first | (go_simp;done) | (go_simp;rfl)) | (obtain ⟨_,_,e_⟩ := Kd.S_slice HO215.out;rw [e_];first | (go_simp;done) | (go_simp;rfl)) | (obtain ⟨_,_,e_⟩ := Kd.Q_slice HO215.out;rw [e_];first | (go_simp;done) | (go_simp;rfl)) | (obtain ⟨_,_,e_⟩ := Kd.N_slice HO215.out;rw [e_];first | (go_simp;done) | (go_simp;rfl)));intro w13 hw;have hg : w11.grownBy w13 (some go10) := (by rw [hw];exact HP12.2);have hp_ : Kd.S k107 107 w13 w.heap.size (fun _ => True) (.slice (some ⟨go10,0,none⟩) x3_1.length co10) y217 := (by rw [hw,Ny217.out];exact HP12.1);clear HP12;replace HO_3 := aM_ (hp_);replace HB := aM_ ((by rw [hw];exact below_set (below_set (below_set (HB.out) GB10.out) GB10.out) GB10.out : Below w.heap.size w w13));clear HO215;clear hg hw hp_))
        go_roundg k1
        case measure => have := HK1.out;omega
        case rel => exact ⟨(y217),(wrap64 (x4_1 + 1)),(by first | rfl | (simp;done) | (simp [*];done)),H',⟨by have := HK1.out;omega⟩,⟨by (with_reducible repeat (first | apply Kd.S_alloc | apply Kd.S_drewN | apply Kd.S_drew));exact HO_3.out⟩,⟨gW_ HB.out⟩⟩
       ·rw [if_neg c9] at H
        exact absurd H (by simp)
      ·rw [if_neg c7] at H
       exact absurd H (by simp)
     ·rw [if_neg c6] at H
      have c6b0 : decide (x4_1 < (l0.length : Int)) = false := decide_eq_false c6
      clear c6
      obtain rfl := sJ_ H
      go_wp2
      go_ret
      exact ⟨_,fR_,by (with_reducible repeat (first | apply Kd.S_alloc | apply Kd.S_drewN | apply Kd.S_drew));exact HO_3.out,gB_ HB.out⟩
  ·rw [if_neg c3] at H
   exact absurd H (by simp)
 ·rw [if_neg c2] at H
  exact absurd H (by simp)
def laws_toChan.f (k : Nat) (a0_0 : Int) (l0_1 : List Int) (a0_2 : Bool) : Option (Int × List Int × Bool) := (laws_toIntS.f k l0_1).bind fun t221 => (some (a0_0,t221,a0_2))
set_option maxHeartbeats 8000000 in
theorem laws_toChan.calls (k : Nat) (a0_0 : Int) (A0_1 : Option Addr) (c0_1 : Nat) (l0_1 : List Int) (a0_2 : Bool) (r1 : Int) (r2 : List Int) (r3 : Bool) (w : World) (hr0_1 : Kd.C (Kd.int .i64) w A0_1 l0_1.length l0_1) (hc0_1 : l0_1.length ≤ c0_1) (h : laws_toChan.f k a0_0 l0_1 a0_2 = some (r1,r2,r3)) :
  Calls Try.prog 148 #[.agg #[.int .i64 a0_0,.slice A0_1 l0_1.length c0_1,.bool a0_2]] w fun e w' => ∃ v1_ : Value,e = .returned (.agg #[.int .i64 r1,v1_,.bool r3]) ∧ Kd.R (Kd.int .i64) 3 w' w.heap.size (fun _ => True) v1_ r2 ∧ Below w.heap.size w w' := by
 have hu186 := Try.underlying186
 have hu94 := Try.underlying94
 have HR0_1 := aM_ hr0_1
 have HC0_1 := aM_ hc0_1
 clear hr0_1 hc0_1
 have HB := aM_ (Below.refl w.heap.size w)
 have H : ((laws_toIntS.f k l0_1).bind fun t221 => (some (a0_0,t221,a0_2))) = some (r1,r2,r3) := h
 clear h
 replace H := Option.bind_eq_some_iff.mp H
 obtain ⟨t221,A20,H⟩ := H
 replace H : (some (a0_0,t221,a0_2)) = some (r1,r2,r3) := H
 have A2 := aM_ A20
 clear A20
 simp only [Option.some.injEq,Prod.mk.injEq] at H
 obtain ⟨rfl,rfl,rfl⟩ := H
 go_enter Try.func148,Try.ntmps148
 go_wp2_with (first | (refine bX_ 1 (cs := #[.int .i64 a0_0,.slice A0_1 l0_1.length c0_1,.bool a0_2]) (t := 186) ?_;intro gb218 hg w3 hbox hb;have BK218 := aM_ (hbox);have GE218 := aM_ (sZ_ hg HB.out);replace HB := aM_ (sT_ HB.out hb);clear hb hbox hg) | (refine bX_ 2 (cs := #[.int .i64 0,.slice none 0 0,.bool false]) (t := 94) ?_;intro gb219 hg w4 hbox hb;have BK219 := aM_ (hbox);have GE219 := aM_ (sZ_ hg HB.out);have NB218_219 := aM_ (nL_ hg BK218.out);have NB219_218 := aM_ (nG_ hg BK218.out);replace BK218 := aM_ (nB_ BK218.out hb);replace HB := aM_ (sT_ HB.out hb);clear hb hbox hg) | (refine bX_ 3 (cs := #[.int .i64 0,.slice none 0 0,.bool false]) (t := 94) ?_;intro gb220 hg w5 hbox hb;have BK220 := aM_ (hbox);have GE220 := aM_ (sZ_ hg HB.out);have NB218_220 := aM_ (nL_ hg BK218.out);have NB220_218 := aM_ (nG_ hg BK218.out);have NB219_220 := aM_ (nL_ hg BK219.out);have NB220_219 := aM_ (nG_ hg BK219.out);replace BK218 := aM_ (nB_ BK218.out hb);replace BK219 := aM_ (nB_ BK219.out hb);replace HB := aM_ (sT_ HB.out hb);clear hb hbox hg;have hnb6 := nn_ NB218_219 NB219_218;have hnb7 := nn_ NB218_220 NB220_218;have z_8 := bR3_ BK218.out;have hnb9 := nn_ NB220_219 NB219_220;have z_10 := bR3_ BK220.out) | (refine gL_ (some 9) Try.func61 #[.slice A0_1 l0_1.length c0_1] ?_;(with_reducible refine (laws_toIntS.calls k _ _ l0_1 t221 _ ?side1 HC0_1.out A2.out).mono ?_);(case side1 => exact Kd.C_below HR0_1.out (gB_ HB.out));rintro e w11 ⟨v222,rfl,ho0,hb⟩;refine ⟨_,rfl,?_⟩;have HO223 := aM_ (Kd.R_lower ho0 (below_size (gB_ HB.out)));replace BK218 := aM_ (nBf_ BK218.out hb);replace BK219 := aM_ (nBf_ BK219.out hb);replace BK220 := aM_ (blk_below (g := gb220) (o := .cells #[.int .i64 a0_0,.slice none 0 0,.bool false] 94 (0,0)) (by (with_reducible repeat (first | refine bN_ ?_ _ | refine bD_ ?_ | refine bA_ ?_ _));refine blk_put (cs := #[.int .i64 0,.slice none 0 0,.bool false]) ?_ 0 _ rfl;exact rW_ BK220.out) hb);replace HB := aM_ (sT_ HB.out hb);(try clear ho0);obtain ⟨Ao12,co12,eo12⟩ := Kd.R_slice HO223.out;subst eo12;have z_13 := bR3_ BK220.out;have z_14 := bR3_ BK218.out;have z_15 := bR3_ BK219.out))
 refine bodyPost_ret (results_cell_row rfl _ _ gb219 94 #[.int .i64 a0_0,.slice Ao12 t221.length co12,.bool a0_2] (0,0) _ rfl (by (with_reducible repeat (first | refine bN_ ?_ _ | refine bD_ ?_ | refine bA_ ?_ _));refine blk_put (cs := #[.int .i64 a0_0,.slice Ao12 t221.length co12,.bool false]) ?_ 2 _ rfl;refine blk_put (cs := #[.int .i64 a0_0,.slice none 0 0,.bool false]) ?_ 1 _ rfl;refine blk_put (cs := #[.int .i64 0,.slice none 0 0,.bool false]) ?_ 0 _ rfl;exact rWf_ BK219.out) Try.underlying94 rfl (by kernel_rfl)) rfl ?_
 exact ⟨_,fR_,by (with_reducible repeat (first | apply rA_ | apply rN_ | apply rD_));exact Kd.R_mono (RF3_ gb219 (Kd.R_far (p := ⟨gb220,2,none⟩) (Kd.R_far (p := ⟨gb220,1,none⟩) (Kd.R_types (Kd.R_types HO223.out BK220.out (by decide)) BK219.out (by decide)) (fun _ hk => hk.1.2) (.slice Ao12 t221.length co12)) (fun _ hk => hk.1.2) (.bool a0_2)) (fun _ hk => hk.2) (.int .i64 a0_0) (.slice Ao12 t221.length co12) (.bool a0_2)) (fun _ hk => trivial),gB_ HB.out⟩
def laws_toChanS.l0 : Nat → List (S186) → List (S94) → Int → Option ((List (S94)))
  | 0,_,_,_ => none
  | k + 1,x0,x3,x4 => if x4 < (x0.length : Int) then (if 0 ≤ x4 then ((laws_toChan.f k ((rd_T186 x0 x4).f0) ((rd_T186 x0 x4).f1) ((rd_T186 x0 x4).f2)).bind fun bt228 => (if x4 < (x3.length : Int) then (laws_toChanS.l0 k x0 (x3.set (x4 : Int).toNat (⟨bt228.1,bt228.2.1,bt228.2.2⟩ : S94)) (wrap64 (x4 + 1))) else (none))) else (none)) else (some x3)
def laws_toChanS.f (k : Nat) (l0 : List (S186)) : Option ((List (S94))) := if 0 ≤ (l0.length : Int) then (if ((l0.length : Int) : Int).toNat ≤ 7036874417766 then (laws_toChanS.l0 k l0 (List.replicate ((l0.length : Int) : Int).toNat z94) 0) else (none)) else (none)
set_option maxHeartbeats 8000000 in
theorem laws_toChanS.calls (k : Nat) (A0 : Option Addr) (c0 : Nat) (l0 : List (S186)) (r : List (S94)) (w : World) (hr0 : Kd.C k186 w A0 l0.length l0) (hc0 : l0.length ≤ c0) (h : laws_toChanS.f k l0 = some r) :
  Calls Try.prog 96 #[.slice A0 l0.length c0] w fun e w' => ∃ v0_ : Value,e = .returned (v0_) ∧ Kd.S k94 94 w' w.heap.size (fun _ => True) v0_ r ∧ Below w.heap.size w w' := by
 have hu186 := Try.underlying186
 have hu94 := Try.underlying94
 have HR0 := aM_ hr0
 have HC0 := aM_ hc0
 clear hr0 hc0
 have HB := aM_ (Below.refl w.heap.size w)
 have H : (if 0 ≤ (l0.length : Int) then (if ((l0.length : Int) : Int).toNat ≤ 7036874417766 then (laws_toChanS.l0 k l0 (List.replicate ((l0.length : Int) : Int).toNat z94) 0) else (none)) else (none)) = some r := h
 clear h
 by_cases c2 : 0 ≤ (l0.length : Int)
 ·rw [if_pos c2] at H
  have c2b0 := eq_true c2
  have c2b1 : decide (0 ≤ (l0.length : Int)) = true := decide_eq_true c2
  clear c2
  by_cases c3 : ((l0.length : Int) : Int).toNat ≤ 7036874417766
  ·rw [if_pos c3] at H
   have c3b0 := eq_true c3
   have c3b1 : decide (((l0.length : Int) : Int).toNat ≤ 7036874417766) = true := decide_eq_true c3
   clear c3
   obtain ⟨y224,hy224⟩ : ∃ y_ : List (S94),y_ = (List.replicate ((l0.length : Int) : Int).toNat z94) := ⟨_,rfl⟩
   replace H : (laws_toChanS.l0 k l0 y224 0) = some r := by first | (rw [hy224];with_reducible exact H) | (have H2_ := (Option.bind_some _ _).symm.trans H;rw [hy224];with_reducible exact H2_) | (have H2_ := (Option.bind_some _ _).symm.trans H;with_reducible exact H2_) | with_reducible exact H | (rw [hy224];exact H) | exact H
   have Ny224 := aM_ hy224
   clear hy224
   have H' := aM_ H
   clear H
   go_enter Try.func96,Try.ntmps96
   go_wp2_with (first | ((with_reducible refine gate_dst (N := 7) rfl ?_);refine Kd.S_make k94 _ 94 rfl (N := 7) rfl 25 _ _ rfl (l0.length : Int) rfl rfl Try.underlying25 (.agg #[(.int .i64 0),(.slice none 0 0),(.bool false)]) 40 info94 rfl (by decide) (by omega) z94 (ok := fun _ => True) (okp := fun _ => True) (k94_mkM _ _ _ z94 (Kd.R_nil _ _ _ _ _)) (fun _ hk => hk) trivial (pD_) (Nat.le_trans (Nat.mul_le_mul_right _ (pD_ : (l0.length : Int).toNat ≤ 7036874417766)) (by omega)) (Below.refl _ _) (Nat.le_refl _) ?_;intro v225 w4 ho5 hb hg_ hnew_;clear hg_ hnew_;(first | rw [← Ny224.out] at ho5 | (simp only [Int.reduceToNat] at ho5;rw [← Ny224.out] at ho5));have HO226 := aM_ (Kd.S_lower ho5 (below_size (gB_ HB.out)));replace HB := aM_ (sT_ HB.out hb);clear hb ho5))
   go_loopg [4] k (fun kq v4 w' => ∃ (x3_1 : List (S94)) (x4_1 : Int),v4 = .int .i64 x4_1 ∧ Aside0 (laws_toChanS.l0 kq l0 x3_1 x4_1 = some r) ∧ Aside0 (kq ≤ k) ∧ Aside0 (Kd.S k94 94 w' w.heap.size (fun _ => True) v225 x3_1) ∧ Aside0 (Below w.heap.size w w'))
   case atStart => exact ⟨(y224),(0),(by first | rfl | (simp;done) | (simp [*];done)),H',⟨Nat.le_refl _⟩,⟨by (with_reducible repeat (first | apply Kd.S_alloc | apply Kd.S_drewN | apply Kd.S_drew));exact HO226.out⟩,⟨gW_ HB.out⟩⟩
   case round =>
    clear H'
    (try clear c2);(try clear c2b0);(try clear c2b1);(try clear p2);(try clear c3);(try clear c3b0);(try clear c3b1)
    obtain ⟨x3_1,x4_1,rfl,HA,HK1,HO_3,HB⟩ := hrel
    cases gk with
    | zero => exact absurd HA.out (by simp [laws_toChanS.l0])
    | succ k1 =>
     have H := HA.out
     clear HA
     simp only [laws_toChanS.l0] at H
     by_cases c6 : x4_1 < (l0.length : Int)
     ·rw [if_pos c6] at H
      have c6b0 : decide (x4_1 < (l0.length : Int)) = true := decide_eq_true c6
      clear c6
      by_cases c7 : 0 ≤ x4_1
      ·rw [if_pos c7] at H
       have c7b0 : decide (0 ≤ x4_1) = true := decide_eq_true c7
       clear c7
       replace H := Option.bind_eq_some_iff.mp H
       obtain ⟨⟨t228,t229,t232⟩,A80,H⟩ := H
       replace H : (if x4_1 < (x3_1.length : Int) then (laws_toChanS.l0 k1 l0 (x3_1.set (x4_1 : Int).toNat (⟨t228,t229,t232⟩ : S94)) (wrap64 (x4_1 + 1))) else (none)) = some r := H
       have A8 := aM_ A80
       clear A80
       by_cases c9 : x4_1 < (x3_1.length : Int)
       ·rw [if_pos c9] at H
        have c9b0 : decide (x4_1 < (x3_1.length : Int)) = true := decide_eq_true c9
        clear c9
        obtain ⟨y233,hy233⟩ : ∃ y_ : List (S94),y_ = (x3_1.set (x4_1 : Int).toNat (⟨t228,t229,t232⟩ : S94)) := ⟨_,rfl⟩
        replace H : (laws_toChanS.l0 k1 l0 y233 (wrap64 (x4_1 + 1))) = some r := by first | (rw [hy233];with_reducible exact H) | (have H2_ := (Option.bind_some _ _).symm.trans H;rw [hy233];with_reducible exact H2_) | (have H2_ := (Option.bind_some _ _).symm.trans H;with_reducible exact H2_) | with_reducible exact H | (rw [hy233];exact H) | exact H
        have Ny233 := aM_ hy233
        clear hy233
        have H' := aM_ H
        clear H
        have p227 : 0 ≤ (x4_1 : Int) := pD_
        have q227 : x4_1 < (l0.length : Int) := pD_
        obtain ⟨ad227,A227_1,c227_1,e227,hx227_0,hx227_1,hx227_2,hl227_1,hi227_1⟩ := at_T186 HR0.out x4_1 p227 q227
        cases e227
        replace hx227_0 := cB_ HB.out hx227_0
        replace hx227_1 := cB_ HB.out hx227_1
        replace hx227_2 := cB_ HB.out hx227_2
        have HR227_1 := aM_ hi227_1
        have HC227_1 := aM_ hl227_1
        clear hi227_1 hl227_1
        replace p227 := eq_true p227
        replace q227 := eq_true q227
        go_wp2_with (first | (refine gL_ (some 20) Try.func148 #[.agg #[.int .i64 ((rd_T186 l0 x4_1).f0),.slice A227_1 ((rd_T186 l0 x4_1).f1).length c227_1,.bool ((rd_T186 l0 x4_1).f2)]] ?_;(with_reducible refine (laws_toChan.calls k1 ((rd_T186 l0 x4_1).f0) _ _ ((rd_T186 l0 x4_1).f1) ((rd_T186 l0 x4_1).f2) t228 t229 t232 _ ?side1 HC227_1.out A8.out).mono ?_);(case side1 => exact cS_ (Kd.C_below HR227_1.out HB.out));rintro e w11 ⟨v230,rfl,ho0,hb⟩;refine ⟨_,rfl,?_⟩;have HO231 := aM_ (Kd.R_lower ho0 (below_size (gB_ HB.out)));replace HO_3 := aM_ (Kd.S_elder' (by (with_reducible repeat (first | apply Kd.S_alloc | apply Kd.S_drewN | apply Kd.S_drew));exact HO_3.out) (Kd.R_base ho0) hb);replace HB := aM_ (sT_ HB.out hb);(try clear ho0);have p10 : 0 ≤ (x4_1 : Int) := pD_;have q10 : (x4_1 : Int) < ((x3_1.length : Int) : Int) := pD_;obtain ⟨go10,co10,eo10,gb10,gl10,cl10,HG10⟩ := Kd.S_form HO_3.out (by omega);(first | cases eo10 | (injection eo10 with ea_ en_ ec_;(first | subst ea_ | (injection ea_ with ea_;subst ea_));subst ec_;clear en_));have GB10 := aM_ gb10;have GG10 := aM_ HG10;clear gb10 gl10 HG10;obtain ⟨_,ce10,hcl10,hM10,hcc10,hfr10,_,_⟩ := Kd.S_elem HO_3.out z94 (x4_1 : Int) p10 q10;obtain ⟨ve10_1,rfl,ge10_1⟩ := k94_openM hM10;have hx10_0 : w11.cell? ⟨go10,(x4_1 : Int).toNat * 3,none⟩ = some (.int .i64 ((rd_T94 x3_1 x4_1).f0)) := hcc10 0 _ rfl;have hx10_1 : w11.cell? ⟨go10,(x4_1 : Int).toNat * 3 + 1,none⟩ = some (ve10_1) := hcc10 1 _ rfl;have hx10_2 : w11.cell? ⟨go10,(x4_1 : Int).toNat * 3 + 2,none⟩ = some (.bool ((rd_T94 x3_1 x4_1).f2)) := hcc10 2 _ rfl;have hf10_0 : w11.frozen? ⟨go10,(x4_1 : Int).toNat * 3,none⟩ = false := hfr10 0;have hf10_1 : w11.frozen? ⟨go10,(x4_1 : Int).toNat * 3 + 1,none⟩ = false := hfr10 1;have hf10_2 : w11.frozen? ⟨go10,(x4_1 : Int).toNat * 3 + 2,none⟩ = false := hfr10 2;(try clear hcl10);(try clear hcc10);(try clear hfr10);(try clear hM10);replace p10 := eq_true p10;replace q10 := eq_true q10;have n_ := aM_ (Kd.S_mono (ok' := (fun k_ => some k_ ≠ (v230 : Value).ownBlock)) HO_3.out (fun k_ hk => hk.2));clear HO_3;have HO_3 := n_;clear n_;have HX12 := aM_ (show Kd.S k94 94 w11 w.heap.size (fun k_ => ((fun _ => True)) k_ ∧ ¬ ((fun k_ => some k_ = (v230 : Value).ownBlock)) k_) (.slice (some ⟨go10,0,none⟩) x3_1.length co10) x3_1 from (by (with_reducible repeat (first | apply Kd.S_alloc | apply Kd.S_drewN | apply Kd.S_drew));exact Kd.S_mono HO_3.out (fun k_ hk => ⟨trivial,fun e_ => hk e_⟩)));obtain ⟨oki12,ce12,hcl12,hM12,hcc12,hfr12,hoki12,hH12⟩ := Kd.S_elem HX12.out z94 (x4_1 : Int) (pD_) (by have h_ : (x4_1 : Int) < ((x3_1.length : Int) : Int) := pD_;first | exact h_ | (have e_ := (Kd.S_reads' HO_3.out).1;omega) | simpa using h_);obtain ⟨ve12_1,rfl,ge12_1⟩ := k94_openM hM12;have HP12 := Kd.S_seg hH12 (pD_) (by have h_ : (x4_1 : Int) < ((x3_1.length : Int) : Int) := pD_;first | exact h_ | (have e_ := (Kd.S_reads' HO_3.out).1;omega) | simpa using h_) (seg := [.int .i64 t228,v230,.bool t232]) (j := 0) (show 3 ≤ 3 from by decide) (x' := (⟨t228,t229,t232⟩ : S94)) (k94_mkM _ _ _ (⟨t228,t229,t232⟩ : S94) (Kd.R_mono (Kd.R_tight rfl (Kd.R_mono (ok' := fun k_ => ((fun _ => True)) k_ ∧ k_ ≠ go10) (Kd.R_apart' (HO231.out) (Kd.S_typed HO_3.out) (by decide)) (fun k_ hk => ⟨trivial,fun e_ => (hk.2) (by rw [e_];rfl)⟩))) (fun _ h_ => Or.inr (h_)))) (fun _ hk => hk) (fun k_ hk_ => ((Kd.R_mono (ok' := fun k_ => ((fun _ => True)) k_ ∧ k_ ≠ go10) (Kd.R_apart' (HO231.out) (Kd.S_typed HO_3.out) (by decide)) (fun k_ hk => ⟨trivial,fun e_ => (hk.2) (by rw [e_];rfl)⟩))).1 k_ hk_.symm);have hx12_0 := hcc12 0 _ rfl;(try simp only [show (k94).sz = 3 from rfl,Nat.mul_one,Nat.add_zero] at hx12_0);have hf12_0 := hfr12 0;(try simp only [show (k94).sz = 3 from rfl,Nat.mul_one,Nat.add_zero] at hf12_0);have hx12_1 := hcc12 1 _ rfl;(try simp only [show (k94).sz = 3 from rfl,Nat.mul_one,Nat.add_zero] at hx12_1);have hf12_1 := hfr12 1;(try simp only [show (k94).sz = 3 from rfl,Nat.mul_one,Nat.add_zero] at hf12_1);have hx12_2 := hcc12 2 _ rfl;(try simp only [show (k94).sz = 3 from rfl,Nat.mul_one,Nat.add_zero] at hx12_2);have hf12_2 := hfr12 2;(try simp only [show (k94).sz = 3 from rfl,Nat.mul_one,Nat.add_zero] at hf12_2);(try clear hcl12);(try clear hcc12);(try clear hfr12);(try clear hM12);(try clear hoki12);(try clear hH12)) | ((with_reducible refine gate_store (t := 94) (p := 21) rfl ?_);refine store_event (t := 94) (p := 21) (v := ?vo_w13) (w1 := (((w11.setCell ⟨go10,(x4_1 : Int).toNat * 3,none⟩ (.int .i64 t228)).setCell ⟨go10,(x4_1 : Int).toNat * 3 + 1,none⟩ (v230)).setCell ⟨go10,(x4_1 : Int).toNat * 3 + 2,none⟩ (.bool t232))) ?hg ?ho ?hn ?hr ?_;(case ho => rfl);(case hg => rfl);(case hn => rfl);(case hr => first | (go_simp;done) | (go_simp;rfl) | (obtain ⟨_,_,e_⟩ := Kd.R_slice HO231.out;rw [e_];first | (go_simp;done) | (go_simp;rfl)) | (obtain ⟨_,_,e_⟩ := Kd.S_slice HO231.out;rw [e_];first | (go_simp;done) | (go_simp;rfl)) | (obtain ⟨_,_,e_⟩ := Kd.Q_slice HO231.out;rw [e_];first | (go_simp;done) | (go_simp;rfl)) | (obtain ⟨_,_,e_⟩ := Kd.N_slice HO231.out;rw [e_];first | (go_simp;done) | (go_simp;rfl)));intro w13 hw;have hg : w11.grownBy w13 (some go10) := (by rw [hw];exact HP12.2);have hp_ : Kd.S k94 94 w13 w.heap.size (fun _ => True) (.slice (some ⟨go10,0,none⟩) x3_1.length co10) y233 := (by rw [hw,Ny233.out];exact HP12.1);clear HP12;replace HO_3 := aM_ (hp_);replace HB := aM_ ((by rw [hw];exact below_set (below_set (below_set (HB.out) GB10.out) GB10.out) GB10.out : Below w.heap.size w w13));clear HO231;clear hg hw hp_))
        go_roundg k1
        case measure => have := HK1.out;omega
        case rel => exact ⟨(y233),(wrap64 (x4_1 + 1)),(by first | rfl | (simp;done) | (simp [*];done)),H',⟨by have := HK1.out;omega⟩,⟨by (with_reducible repeat (first | apply Kd.S_alloc | apply Kd.S_drewN | apply Kd.S_drew));exact HO_3.out⟩,⟨gW_ HB.out⟩⟩
       ·rw [if_neg c9] at H
        exact absurd H (by simp)
      ·rw [if_neg c7] at H
       exact absurd H (by simp)
     ·rw [if_neg c6] at H
      have c6b0 : decide (x4_1 < (l0.length : Int)) = false := decide_eq_false c6
      clear c6
      obtain rfl := sJ_ H
      go_wp2
      go_ret
      exact ⟨_,fR_,by (with_reducible repeat (first | apply Kd.S_alloc | apply Kd.S_drewN | apply Kd.S_drew));exact HO_3.out,gB_ HB.out⟩
  ·rw [if_neg c3] at H
   exact absurd H (by simp)
 ·rw [if_neg c2] at H
  exact absurd H (by simp)
def laws_toNote.f (a0_0 : Int) (a0_1 : Int) : Option (Int × Int) := some (a0_0,a0_1)
set_option maxHeartbeats 8000000 in
theorem laws_toNote.calls (a0_0 : Int) (a0_1 : Int) (r1 : Int) (r2 : Int) (w : World) (h : laws_toNote.f a0_0 a0_1 = some (r1,r2)) :
  Calls Try.prog 149 #[.agg #[.int .i64 a0_0,.int .i64 a0_1]] w fun e w' => e = .returned (.agg #[.int .i64 r1,.int .i64 r2]) ∧ Below w.heap.size w w' := by
 have hu190 := Try.underlying190
 have hu35 := Try.underlying35
 have HB := aM_ (Below.refl w.heap.size w)
 have H : (some (a0_0,a0_1)) = some (r1,r2) := h
 clear h
 simp only [Option.some.injEq,Prod.mk.injEq] at H
 obtain ⟨rfl,rfl⟩ := H
 go_enter Try.func149,Try.ntmps149
 go_wp2_with (first | (refine bX_ 1 (cs := #[.int .i64 a0_0,.int .i64 a0_1]) (t := 190) ?_;intro gb234 hg w2 hbox hb;have BK234 := aM_ (hbox);have GE234 := aM_ (sZ_ hg HB.out);replace HB := aM_ (sT_ HB.out hb);clear hb hbox hg) | (refine bX_ 2 (cs := #[.int .i64 0,.int .i64 0]) (t := 35) ?_;intro gb235 hg w3 hbox hb;have BK235 := aM_ (hbox);have GE235 := aM_ (sZ_ hg HB.out);have NB234_235 := aM_ (nL_ hg BK234.out);have NB235_234 := aM_ (nG_ hg BK234.out);replace BK234 := aM_ (nB_ BK234.out hb);replace HB := aM_ (sT_ HB.out hb);clear hb hbox hg) | (refine bX_ 3 (cs := #[.int .i64 0,.int .i64 0]) (t := 35) ?_;intro gb236 hg w4 hbox hb;have BK236 := aM_ (hbox);have GE236 := aM_ (sZ_ hg HB.out);have NB234_236 := aM_ (nL_ hg BK234.out);have NB236_234 := aM_ (nG_ hg BK234.out);have NB235_236 := aM_ (nL_ hg BK235.out);have NB236_235 := aM_ (nG_ hg BK235.out);replace BK234 := aM_ (nB_ BK234.out hb);replace BK235 := aM_ (nB_ BK235.out hb);replace HB := aM_ (sT_ HB.out hb);clear hb hbox hg;have hnb5 := nn_ NB234_235 NB235_234;have hnb6 := nn_ NB234_236 NB236_234;have z_7 := bR2_ BK234.out;have hnb8 := nn_ NB236_235 NB235_236;have z_9 := bR2_ BK236.out;have z_10 := bR2_ BK235.out))
 refine bodyPost_ret (results_cell_row rfl _ _ gb235 35 #[.int .i64 a0_0,.int .i64 a0_1] (0,0) _ rfl (by (with_reducible repeat (first | refine bN_ ?_ _ | refine bD_ ?_ | refine bA_ ?_ _));refine blk_put (cs := #[.int .i64 a0_0,.int .i64 0]) ?_ 1 _ rfl;refine blk_put (cs := #[.int .i64 0,.int .i64 0]) ?_ 0 _ rfl;exact rWf_ BK235.out) Try.underlying35 rfl (by kernel_rfl)) rfl ?_
 exact fI_ HB.out
end Go.Proofs.Ytobachfngmpeiaa.PFnExactAble
