import PyProof.Rows.All
import Wide.All
import OpenK.AllK
import Wide.FinOn
import HandS.Head3
import HandS.Head0
import HandS.Head1
import HandS.Head2
import HandS.HeadEnd
import HandS.HeadHook1
import HandS.HeadHook2
import PyProof.EqAt
import PyProof.EqKinds
import PyProof.TupleCall
import HandS.ForMost
import HandS.Walk
import HandS.Zip
import HandS.Style
import HandS.Flow
import HandS.IsInst
import HandS.Property
import HandS.ClsMeth
import HandS.Gcd
import HandS.Conv
import HandS.Wide
import HandS.Defaults
import HandS.OwnEq
import KE.KMathGC
import PyProof.InstNe
import PyProof.ListMulAny
import KE.KOpsOwn
import HandS.MakeKw
import PySem.Challenge.RW_walkworths_k84_whole_less_spread_guesses
set_option Elab.async false
set_option linter.all false
set_option maxRecDepth 100000
set_option exponentiation.threshold 100000
set_option maxHeartbeats 4000000
/-! Triples over the hand layer: what is known of each slot (Sl), the frozen part F of the heap H, judgements by predicates on values that stand when the frozen part grows. -/
namespace Gw
open PySem PySem.Spec PyProof.Rows L2

/-! ### heaps -/
def Ex (H H' : Hp) : Prop := ∀ a o, H a = some o → H' a = some o
theorem Ex.refl (H : Hp) : Ex H H := fun _ _ h => h
theorem Ex.trans {H H1 H2 : Hp} (a : Ex H H1) (b : Ex H1 H2) : Ex H H2 := fun x o h => b x o (a x o h)
theorem Ex.new {H : Hp} {p : Addr} {o : HO} (h : H p = none) : Ex H (upd H p o) := fun a u e => by
  rw [upd_ne (ne_of_none e h)]
  exact e
theorem Ex.back {H H' : Hp} {p : Addr} (e : Ex H H') (h : H' p = none) : H p = none := by
  cases h1 : H p with
  | none => rfl
  | some o =>
    rw [e p o h1] at h
    cases h
theorem upd_none {H : Hp} {p a : Addr} {o : HO} (h : upd H p o a = none) : a ≠ p ∧ H a = none := by
  by_cases e : a = p
  · rw [e, upd_same] at h
    cases h
  · rw [upd_ne e] at h
    exact ⟨e, h⟩
/-- a predicate at all later frozen parts -/
def Up {α : Type} (R : α → Hp → Prop) (v : α) (F : Hp) : Prop := ∀ F', Ex F F' → R v F'
theorem Up.mono {α : Type} {R : α → Hp → Prop} {v : α} {F F' : Hp} (u : Up R v F) (e : Ex F F') : Up R v F' := fun F2 e2 => u F2 (e.trans e2)
theorem Up.here {α : Type} {R : α → Hp → Prop} {v : α} {F : Hp} (u : Up R v F) : R v F := u F (Ex.refl F)
theorem Up.imp {α : Type} {R R' : α → Hp → Prop} {v : α} {F : Hp} (u : Up R v F) (h : ∀ F, R v F → R' v F) : Up R' v F := fun F' e => h F' (u F' e)
/-- the law's list of two numbers -/
def PotAt (H : Hp) (a : Addr) : Prop := ∃ x y : Int, H a = some (.lst [.int x, .int y]) ∧ 0 ≤ x ∧ 0 ≤ y ∧ y < 2 ^ 40
structure Ok (pp : Option Addr) (F H : Hp) : Prop where
  s : Ex F H
  p : ∀ a, pp = some a → F a = none ∧ PotAt H a
/-- from F, H to F', H': objects are made, the law's list may turn, nothing else -/
structure Gr (pp : Option Addr) (F H F' H' : Hp) : Prop where
  f : Ex F F'
  s : Ex F' H'
  k : ∀ a o, H a = some o → pp ≠ some a → H' a = some o
  n : ∀ a o, F' a = some o → F a = some o ∨ H a = none
  p : ∀ a, pp = some a → F' a = none ∧ PotAt H' a
theorem Gr.ok {pp : Option Addr} {F H F' H' : Hp} (g : Gr pp F H F' H') : Ok pp F' H' := ⟨g.s, g.p⟩
theorem Ok.gr {pp : Option Addr} {F H : Hp} (o : Ok pp F H) : Gr pp F H F H := ⟨Ex.refl F, o.s, fun _ _ h _ => h, fun _ _ h => .inl h, o.p⟩
theorem Gr.back {pp : Option Addr} {F H F' H' : Hp} (g : Gr pp F H F' H') {a : Addr} (h : H' a = none) : H a = none := by
  cases e : H a with
  | none => rfl
  | some o =>
    by_cases hp : pp = some a
    · obtain ⟨_, x, y, e2, _⟩ := g.p a hp
      rw [e2] at h
      cases h
    · rw [g.k a o e hp] at h
      cases h
theorem Gr.trans {pp : Option Addr} {F H F1 H1 F2 H2 : Hp} (a : Gr pp F H F1 H1) (b : Gr pp F1 H1 F2 H2) : Gr pp F H F2 H2 where
  f := a.f.trans b.f
  s := b.s
  k := fun x o h hp => b.k x o (a.k x o h hp) hp
  n := fun x o h => by
    rcases b.n x o h with e | e
    · exact a.n x o e
    · exact .inr (a.back e)
  p := b.p
theorem Gr.new {pp : Option Addr} {F H : Hp} {p : Addr} {o : HO} (k : Ok pp F H) (h : H p = none) : Gr pp F H (upd F p o) (upd H p o) where
  f := Ex.new (k.s.back h)
  s := fun a u e => by
    by_cases q : a = p
    · rw [q, upd_same] at e ⊢
      exact e
    · rw [upd_ne q] at e ⊢
      exact k.s a u e
  k := fun a u e _ => by
    rw [upd_ne (ne_of_none e h)]
    exact e
  n := fun a u e => by
    by_cases q : a = p
    · rw [q]
      exact .inr h
    · rw [upd_ne q] at e
      exact .inl e
  p := fun a ha => by
    obtain ⟨h1, x, y, h2, h3⟩ := k.p a ha
    have q : a ≠ p := ne_of_none h2 h
    rw [upd_ne q]
    exact ⟨h1, x, y, by rw [upd_ne q]; exact h2, h3⟩
/-- a new object that is not frozen -/
theorem Gr.raw {pp : Option Addr} {F H : Hp} {p : Addr} {o : HO} (k : Ok pp F H) (h : H p = none) : Gr pp F H F (upd H p o) where
  f := Ex.refl F
  s := fun a u e => by
    rw [upd_ne (ne_of_none (k.s a u e) h)]
    exact k.s a u e
  k := fun a u e _ => by
    rw [upd_ne (ne_of_none e h)]
    exact e
  n := fun a u e => .inl e
  p := fun a ha => by
    obtain ⟨h1, x, y, h2, h3⟩ := k.p a ha
    have q : a ≠ p := ne_of_none h2 h
    exact ⟨h1, x, y, by rw [upd_ne q]; exact h2, h3⟩
theorem Ok.none {pp : Option Addr} {F H : Hp} (o : Ok pp F H) : Ok none F H := ⟨o.s, fun _ h => nomatch h⟩
theorem Gr.lift {pp : Option Addr} {F H F' H' : Hp} (o : Ok pp F H) (g : Gr none F H F' H') : Gr pp F H F' H' where
  f := g.f
  s := g.s
  k := fun a u e _ => g.k a u e (fun z => nomatch z)
  n := g.n
  p := fun a ha => by
    obtain ⟨h1, x, y, h2, h3⟩ := o.p a ha
    refine ⟨?_, x, y, g.k a _ h2 (fun z => nomatch z), h3⟩
    cases e : F' a with
    | none => rfl
    | some u =>
      rcases g.n a u e with q | q
      · rw [h1] at q
        cases q
      · rw [h2] at q
        cases q

/-! ### slots -/
inductive Sl where
  | un
  | fz (R : V → Hp → Prop)
  | mt (R : List V → Hp → Prop)
  | pot
structure En where
  F : Hp
  H : Hp
  pp : Option Addr
abbrev Bs (E : En) (F H : Hp) : Prop := Gr E.pp E.F E.H F H
structure Sat (E : En) (G : List Sl) (σ : L2.St) (F H : Hp) : Prop where
  len : σ.length = G.length
  bs : Bs E F H
  p0 : ∀ a, E.pp = some a → ∃ o, E.H a = some o
  fz : ∀ (i : Nat) (R : V → Hp → Prop), G[i]? = some (Sl.fz R) → ∃ v, σ[i]? = some (some v) ∧ Up R v F
  mt : ∀ (i : Nat) (R : List V → Hp → Prop), G[i]? = some (Sl.mt R) → ∃ p vs, σ[i]? = some (some (.ref p)) ∧ F p = none ∧ E.H p = none ∧ H p = some (.lst vs) ∧ Up R vs F
  ap : ∀ (i j : Nat) (R S : List V → Hp → Prop) (p : Addr), i ≠ j → G[i]? = some (Sl.mt R) → G[j]? = some (Sl.mt S) → σ[i]? = some (some (.ref p)) → σ[j]? = some (some (.ref p)) → False
  pt : ∀ (i : Nat), G[i]? = some Sl.pot → ∃ p, σ[i]? = some (some (.ref p)) ∧ E.pp = some p
section
variable {E : En} {G : List Sl} {σ : L2.St} {F H F' H' : Hp}
theorem Sat.ok (S : Sat E G σ F H) : Ok E.pp F H := S.bs.ok
theorem Sat.refl (S : Sat E G σ F H) : Gr E.pp F H F H := S.ok.gr
theorem Sat.npot (S : Sat E G σ F H) {p : Addr} (h : E.H p = none) : E.pp ≠ some p := fun e => by
  obtain ⟨o, q⟩ := S.p0 p e
  rw [q] at h
  cases h
theorem Sat.gr (S : Sat E G σ F H) (g : Gr E.pp F H F' H') : Sat E G σ F' H' where
  len := S.len
  bs := S.bs.trans g
  p0 := S.p0
  fz := fun i R h => by
    obtain ⟨v, e, u⟩ := S.fz i R h
    exact ⟨v, e, u.mono g.f⟩
  mt := fun i R h => by
    obtain ⟨p, vs, e, h1, h2, h3, h4⟩ := S.mt i R h
    refine ⟨p, vs, e, ?_, h2, g.k p _ h3 (S.npot h2), h4.mono g.f⟩
    cases q : F' p with
    | none => rfl
    | some o =>
      rcases g.n p o q with z | z
      · rw [h1] at z
        cases z
      · rw [h3] at z
        cases z
  ap := S.ap
  pt := S.pt
theorem Sat.set_fz (S : Sat E G σ F H) {i : Nat} {R : V → Hp → Prop} {v : V} (u : Up R v F) : Sat E (G.set i (.fz R)) (σ.set i (some v)) F H where
  len := by rw [List.length_set, List.length_set]; exact S.len
  bs := S.bs
  p0 := S.p0
  fz := fun j R' h => by
    by_cases e : j = i
    · subst e
      have hl : j < G.length := by
        have := (List.getElem?_eq_some_iff.mp h).1
        simpa using this
      rw [List.getElem?_set_self hl] at h
      cases h
      exact ⟨v, List.getElem?_set_self (by rw [S.len]; exact hl), u⟩
    · rw [List.getElem?_set_ne (Ne.symm e)] at h ⊢
      exact S.fz j R' h
  mt := fun j R' h => by
    by_cases e : j = i
    · subst e
      have hl : j < G.length := by
        have := (List.getElem?_eq_some_iff.mp h).1
        simpa using this
      rw [List.getElem?_set_self hl] at h
      cases h
    · rw [List.getElem?_set_ne (Ne.symm e)] at h ⊢
      exact S.mt j R' h
  ap := fun j k R1 R2 p ne h1 h2 e1 e2 => by
    have n1 : j ≠ i := fun e => by
      subst e
      have hl : j < G.length := by
        have := (List.getElem?_eq_some_iff.mp h1).1
        simpa using this
      rw [List.getElem?_set_self hl] at h1
      cases h1
    have n2 : k ≠ i := fun e => by
      subst e
      have hl : k < G.length := by
        have := (List.getElem?_eq_some_iff.mp h2).1
        simpa using this
      rw [List.getElem?_set_self hl] at h2
      cases h2
    rw [List.getElem?_set_ne (Ne.symm n1)] at h1 e1
    rw [List.getElem?_set_ne (Ne.symm n2)] at h2 e2
    exact S.ap j k R1 R2 p ne h1 h2 e1 e2
  pt := fun j h => by
    by_cases e : j = i
    · subst e
      have hl : j < G.length := by
        have := (List.getElem?_eq_some_iff.mp h).1
        simpa using this
      rw [List.getElem?_set_self hl] at h
      cases h
    · rw [List.getElem?_set_ne (Ne.symm e)] at h ⊢
      exact S.pt j h
theorem Sat.set_mt (S : Sat E G σ F H) {i : Nat} {R : List V → Hp → Prop} {p : Addr} {vs : List V} (hF : F p = none) (hE : E.H p = none) (hH : H p = some (.lst vs)) (u : Up R vs F)
    (ha : ∀ (j : Nat) (S : List V → Hp → Prop), j ≠ i → G[j]? = some (Sl.mt S) → σ[j]? = some (some (.ref p)) → False) : Sat E (G.set i (.mt R)) (σ.set i (some (.ref p))) F H where
  len := by rw [List.length_set, List.length_set]; exact S.len
  bs := S.bs
  p0 := S.p0
  fz := fun j R' h => by
    by_cases e : j = i
    · subst e
      have hl : j < G.length := by
        have := (List.getElem?_eq_some_iff.mp h).1
        simpa using this
      rw [List.getElem?_set_self hl] at h
      cases h
    · rw [List.getElem?_set_ne (Ne.symm e)] at h ⊢
      exact S.fz j R' h
  mt := fun j R' h => by
    by_cases e : j = i
    · subst e
      have hl : j < G.length := by
        have := (List.getElem?_eq_some_iff.mp h).1
        simpa using this
      rw [List.getElem?_set_self hl] at h
      cases h
      exact ⟨p, vs, List.getElem?_set_self (by rw [S.len]; exact hl), hF, hE, hH, u⟩
    · rw [List.getElem?_set_ne (Ne.symm e)] at h ⊢
      exact S.mt j R' h
  ap := fun j k R1 R2 q ne h1 h2 e1 e2 => by
    have one : ∀ (j k : Nat) (R2 : List V → Hp → Prop), j ≠ k → (G.set i (.mt R))[k]? = some (.mt R2) → (σ.set i (some (.ref p)))[j]? = some (some (.ref q)) → (σ.set i (some (.ref p)))[k]? = some (some (.ref q)) → j = i → False := fun j k R2 ne h2 e1 e2 e => by
      subst e
      have hl : j < σ.length := by
        have := (List.getElem?_eq_some_iff.mp e1).1
        simpa using this
      rw [List.getElem?_set_self hl] at e1
      cases e1
      rw [List.getElem?_set_ne ne] at h2 e2
      exact ha k R2 (Ne.symm ne) h2 e2
    by_cases n1 : j = i
    · exact one j k R2 ne h2 e1 e2 n1
    · by_cases n2 : k = i
      · exact one k j R1 (Ne.symm ne) h1 e2 e1 n2
      · rw [List.getElem?_set_ne (Ne.symm n1)] at h1 e1
        rw [List.getElem?_set_ne (Ne.symm n2)] at h2 e2
        exact S.ap j k R1 R2 q ne h1 h2 e1 e2
  pt := fun j h => by
    by_cases e : j = i
    · subst e
      have hl : j < G.length := by
        have := (List.getElem?_eq_some_iff.mp h).1
        simpa using this
      rw [List.getElem?_set_self hl] at h
      cases h
    · rw [List.getElem?_set_ne (Ne.symm e)] at h ⊢
      exact S.pt j h
/-- the list at a slot turns -/
theorem Sat.turn (S : Sat E G σ F H) {i : Nat} {R R' : List V → Hp → Prop} {p : Addr} {vs : List V} (hG : G[i]? = some (.mt R)) (hs : σ[i]? = some (some (.ref p))) (u : Up R' vs F) :
    Sat E (G.set i (.mt R')) σ F (upd H p (.lst vs)) := by
  obtain ⟨p', vs0, e, h1, h2, h3, h4⟩ := S.mt i R hG
  rw [hs] at e
  cases e
  have hb : Bs E F (upd H p (.lst vs)) := {
    f := S.bs.f
    s := fun a o q => by
      have ne : a ≠ p := fun z => by rw [z, h1] at q; cases q
      rw [upd_ne ne]
      exact S.bs.s a o q
    k := fun a o q hp => by
      have ne : a ≠ p := fun z => by rw [z, h2] at q; cases q
      rw [upd_ne ne]
      exact S.bs.k a o q hp
    n := S.bs.n
    p := fun a ha => by
      obtain ⟨q1, x, y, q2, q3⟩ := S.bs.p a ha
      have ne : a ≠ p := fun z => S.npot h2 (by rw [← z]; exact ha)
      exact ⟨q1, x, y, by rw [upd_ne ne]; exact q2, q3⟩ }
  have hl : i < G.length := (List.getElem?_eq_some_iff.mp hG).1
  refine ⟨by rw [List.length_set]; exact S.len, hb, S.p0, fun j R1 h => ?_, fun j R1 h => ?_, fun j k R1 R2 q ne g1 g2 e1 e2 => ?_, fun j h => ?_⟩
  · by_cases e : j = i
    · subst e
      rw [List.getElem?_set_self hl] at h
      cases h
    · rw [List.getElem?_set_ne (Ne.symm e)] at h
      exact S.fz j R1 h
  · by_cases e : j = i
    · subst e
      rw [List.getElem?_set_self hl] at h
      cases h
      exact ⟨p, vs, hs, h1, h2, upd_same, u⟩
    · rw [List.getElem?_set_ne (Ne.symm e)] at h
      obtain ⟨q, ws, g1, g2, g3, g4, g5⟩ := S.mt j R1 h
      have ne : q ≠ p := fun z => by
        subst z
        exact S.ap j i R1 R q e h hG g1 hs
      exact ⟨q, ws, g1, g2, g3, by rw [upd_ne ne]; exact g4, g5⟩
  · have get : ∀ (j : Nat) (R1 : List V → Hp → Prop), (G.set i (.mt R'))[j]? = some (.mt R1) → ∃ S1, G[j]? = some (.mt S1) := fun j R1 g => by
      by_cases e : j = i
      · subst e
        exact ⟨R, hG⟩
      · rw [List.getElem?_set_ne (Ne.symm e)] at g
        exact ⟨R1, g⟩
    obtain ⟨S1, g1'⟩ := get j R1 g1
    obtain ⟨S2, g2'⟩ := get k R2 g2
    exact S.ap j k S1 S2 q ne g1' g2' e1 e2
  · by_cases e : j = i
    · subst e
      rw [List.getElem?_set_self hl] at h
      cases h
    · rw [List.getElem?_set_ne (Ne.symm e)] at h
      exact S.pt j h
/-- a list as a value: at an address of the frozen part -/
def LstOf (R : List V → Hp → Prop) (v : V) (F : Hp) : Prop := ∃ a vs, v = .ref a ∧ F a = some (.lst vs) ∧ Up R vs F
def TupOf (R : List V → Hp → Prop) (v : V) (F : Hp) : Prop := ∃ a vs, v = .ref a ∧ F a = some (.tup vs) ∧ Up R vs F
/-- the list at a slot freezes -/
theorem Sat.freeze (S : Sat E G σ F H) {i : Nat} {R : List V → Hp → Prop} (hG : G[i]? = some (.mt R)) :
    ∃ p vs, σ[i]? = some (some (.ref p)) ∧ F p = none ∧ E.H p = none ∧ H p = some (.lst vs) ∧ Up R vs F ∧ Sat E (G.set i (.fz (LstOf R))) σ (upd F p (.lst vs)) H := by
  obtain ⟨p, vs, e, h1, h2, h3, h4⟩ := S.mt i R hG
  have hx : Ex F (upd F p (.lst vs)) := Ex.new h1
  have hl : i < G.length := (List.getElem?_eq_some_iff.mp hG).1
  have hb : Bs E (upd F p (.lst vs)) H := {
    f := S.bs.f.trans hx
    s := fun a o q => by
      by_cases ne : a = p
      · subst ne
        rw [upd_same] at q
        cases q
        exact h3
      · rw [upd_ne ne] at q
        exact S.bs.s a o q
    k := S.bs.k
    n := fun a o q => by
      by_cases ne : a = p
      · rw [ne]
        exact .inr h2
      · rw [upd_ne ne] at q
        exact S.bs.n a o q
    p := fun a ha => by
      obtain ⟨q1, q2⟩ := S.bs.p a ha
      have ne : a ≠ p := fun z => S.npot h2 (by rw [← z]; exact ha)
      exact ⟨by rw [upd_ne ne]; exact q1, q2⟩ }
  refine ⟨p, vs, e, h1, h2, h3, h4, ⟨by rw [List.length_set]; exact S.len, hb, S.p0, fun j R1 h => ?_, fun j R1 h => ?_, fun j k R1 R2 q ne g1 g2 e1 e2 => ?_, fun j h => ?_⟩⟩
  · by_cases q : j = i
    · subst q
      rw [List.getElem?_set_self hl] at h
      cases h
      exact ⟨.ref p, e, fun F2 e2 => ⟨p, vs, rfl, e2 _ _ upd_same, (h4.mono hx).mono e2⟩⟩
    · rw [List.getElem?_set_ne (Ne.symm q)] at h
      obtain ⟨v, g1, g2⟩ := S.fz j R1 h
      exact ⟨v, g1, g2.mono hx⟩
  · by_cases q : j = i
    · subst q
      rw [List.getElem?_set_self hl] at h
      cases h
    · rw [List.getElem?_set_ne (Ne.symm q)] at h
      obtain ⟨q', ws, g1, g2, g3, g4, g5⟩ := S.mt j R1 h
      have ne : q' ≠ p := fun z => by
        subst z
        exact S.ap j i R1 R q' q h hG g1 e
      exact ⟨q', ws, g1, by rw [upd_ne ne]; exact g2, g3, g4, g5.mono hx⟩
  · have get : ∀ (j : Nat) (R1 : List V → Hp → Prop), (G.set i (.fz (LstOf R)))[j]? = some (.mt R1) → G[j]? = some (.mt R1) := fun j R1 g => by
      by_cases q : j = i
      · subst q
        rw [List.getElem?_set_self hl] at g
        cases g
      · rw [List.getElem?_set_ne (Ne.symm q)] at g
        exact g
    exact S.ap j k R1 R2 q ne (get j R1 g1) (get k R2 g2) e1 e2
  · by_cases q : j = i
    · subst q
      rw [List.getElem?_set_self hl] at h
      cases h
    · rw [List.getElem?_set_ne (Ne.symm q)] at h
      exact S.pt j h
/-- less is known -/
inductive Le : Sl → Sl → Prop where
  | un {s : Sl} : Le s .un
  | fz {R R' : V → Hp → Prop} (h : ∀ v F, R v F → R' v F) : Le (.fz R) (.fz R')
  | mt {R R' : List V → Hp → Prop} (h : ∀ v F, R v F → R' v F) : Le (.mt R) (.mt R')
  | pot : Le .pot .pot
theorem Le.rfl' : ∀ s : Sl, Le s s
  | .un => .un
  | .fz _ => .fz fun _ _ h => h
  | .mt _ => .mt fun _ _ h => h
  | .pot => .pot
theorem Sat.weak {G' : List Sl} (S : Sat E G σ F H) (hl : G'.length = G.length) (h : ∀ (i : Nat) (s' : Sl), G'[i]? = some s' → ∃ s, G[i]? = some s ∧ Le s s') : Sat E G' σ F H where
  len := by rw [hl]; exact S.len
  bs := S.bs
  p0 := S.p0
  fz := fun i R e => by
    obtain ⟨s, e1, l⟩ := h i _ e
    cases l with
    | fz k =>
      obtain ⟨v, g1, g2⟩ := S.fz i _ e1
      exact ⟨v, g1, g2.imp fun F q => k v F q⟩
  mt := fun i R e => by
    obtain ⟨s, e1, l⟩ := h i _ e
    cases l with
    | mt k =>
      obtain ⟨p, vs, g1, g2, g3, g4, g5⟩ := S.mt i _ e1
      exact ⟨p, vs, g1, g2, g3, g4, g5.imp fun F q => k vs F q⟩
  ap := fun i j R1 R2 p ne e1 e2 => by
    obtain ⟨s, q1, l1⟩ := h i _ e1
    obtain ⟨t, q2, l2⟩ := h j _ e2
    cases l1 with
    | mt k1 => cases l2 with
      | mt k2 => exact S.ap i j _ _ p ne q1 q2
  pt := fun i e => by
    obtain ⟨s, e1, l⟩ := h i _ e
    cases l with
    | pot => exact S.pt i e1
/-- less is known, slot by slot -/
theorem Sat.weakL {G' : List Sl} (S : Sat E G σ F H) (h : Paired Le G G') : Sat E G' σ F H := by
  have all : ∀ {A B : List Sl}, Paired Le A B → B.length = A.length ∧ ∀ (i : Nat) (s' : Sl), B[i]? = some s' → ∃ s, A[i]? = some s ∧ Le s s' := by
    intro A B h
    induction h with
    | nil => exact ⟨rfl, fun i s' e => by simp at e⟩
    | cons r t ih =>
      refine ⟨by simp [ih.1], fun i s' e => ?_⟩
      cases i with
      | zero =>
        simp at e
        subst e
        exact ⟨_, rfl, r⟩
      | succ i =>
        simp at e
        obtain ⟨s, e1, l⟩ := ih.2 i s' e
        exact ⟨s, by simpa using e1, l⟩
  exact S.weak (all h).1 (all h).2
/-- a slot forgotten -/
theorem Sat.drop (S : Sat E G σ F H) (i : Nat) (x : Option V) : Sat E (G.set i .un) (σ.set i x) F H where
  len := by rw [List.length_set, List.length_set]; exact S.len
  bs := S.bs
  p0 := S.p0
  fz := fun j R' h => by
    by_cases e : j = i
    · subst e
      have hl : j < G.length := by
        have := (List.getElem?_eq_some_iff.mp h).1
        simpa using this
      rw [List.getElem?_set_self hl] at h
      cases h
    · rw [List.getElem?_set_ne (Ne.symm e)] at h ⊢
      exact S.fz j R' h
  mt := fun j R' h => by
    by_cases e : j = i
    · subst e
      have hl : j < G.length := by
        have := (List.getElem?_eq_some_iff.mp h).1
        simpa using this
      rw [List.getElem?_set_self hl] at h
      cases h
    · rw [List.getElem?_set_ne (Ne.symm e)] at h ⊢
      exact S.mt j R' h
  ap := fun j k R1 R2 p ne h1 h2 e1 e2 => by
    have n1 : j ≠ i := fun e => by
      subst e
      have hl : j < G.length := by
        have := (List.getElem?_eq_some_iff.mp h1).1
        simpa using this
      rw [List.getElem?_set_self hl] at h1
      cases h1
    have n2 : k ≠ i := fun e => by
      subst e
      have hl : k < G.length := by
        have := (List.getElem?_eq_some_iff.mp h2).1
        simpa using this
      rw [List.getElem?_set_self hl] at h2
      cases h2
    rw [List.getElem?_set_ne (Ne.symm n1)] at h1 e1
    rw [List.getElem?_set_ne (Ne.symm n2)] at h2 e2
    exact S.ap j k R1 R2 p ne h1 h2 e1 e2
  pt := fun j h => by
    by_cases e : j = i
    · subst e
      have hl : j < G.length := by
        have := (List.getElem?_eq_some_iff.mp h).1
        simpa using this
      rw [List.getElem?_set_self hl] at h
      cases h
    · rw [List.getElem?_set_ne (Ne.symm e)] at h ⊢
      exact S.pt j h
def wipeG (G : List Sl) : List Nat → List Sl
  | [] => G
  | v :: vs => (wipeG G vs).set v .un
theorem Sat.wipe (S : Sat E G σ F H) : ∀ vs : List Nat, Sat E (wipeG G vs) (L2.wipe σ vs) F H
  | [] => S
  | v :: vs => (Sat.wipe S vs).drop v none
theorem wipe_set {σ : L2.St} {i : Nat} {x : Option V} : ∀ {vs : List Nat}, i ∈ vs → L2.wipe (σ.set i x) vs = L2.wipe σ vs
  | [], h => absurd h (by simp)
  | v :: vs, h => by
    unfold L2.wipe
    by_cases q : i ∈ vs
    · rw [wipe_set q]
    · have e : i = v := by
        rcases List.mem_cons.mp h with z | z
        · exact z
        · exact absurd z q
      subst e
      have all : ∀ {vs : List Nat}, i ∉ vs → L2.wipe (σ.set i x) vs = (L2.wipe σ vs).set i x := by
        intro vs
        induction vs with
        | nil => intro _; rfl
        | cons w ws ih =>
          intro hn
          have h1 : i ≠ w := fun z => hn (by simp [z])
          have h2 : i ∉ ws := fun z => hn (by simp [z])
          unfold L2.wipe
          rw [ih h2, List.set_comm _ _ h1]
      rw [all q, List.set_set]
theorem wipe_idem {σ : L2.St} : ∀ {vs ws : List Nat}, (∀ v ∈ vs, v ∈ ws) → L2.wipe (L2.wipe σ vs) ws = L2.wipe σ ws
  | [], _, _ => rfl
  | v :: vs, ws, h => by
    show L2.wipe ((L2.wipe σ vs).set v none) ws = _
    rw [wipe_set (h v (by simp)), wipe_idem fun u hu => h u (by simp [hu])]
end
end Gw
set_option maxHeartbeats 4000000
namespace Gw
open PySem PySem.Spec PyProof.Rows L2

/-! ### readings -/
def tE (E : En) (G : List Sl) (R : V → Hp → Prop) : TE := fun σ H Q => ∃ F, Sat E G σ F H ∧ ∀ v F' H', Gr E.pp F H F' H' → Up R v F' → Q v H'
def tT (E : En) (G : List Sl) (b : Bool) : TT := fun σ H Q => ∃ F, Sat E G σ F H ∧ ∀ F' H', Gr E.pp F H F' H' → Q b H'
def Args (Rs : List (V → Hp → Prop)) (vs : List V) (F : Hp) : Prop := Paired (fun R v => Up R v F) Rs vs
def tA (E : En) (G : List Sl) (Rs : List (V → Hp → Prop)) : TA := fun σ H Q => ∃ F, Sat E G σ F H ∧ ∀ vs F' H', Gr E.pp F H F' H' → Args Rs vs F' → Q vs H'
/-- a new list, not frozen -/
def tM (E : En) (G : List Sl) (R : List V → Hp → Prop) : TE := fun σ H Q => ∃ F, Sat E G σ F H ∧ ∀ p vs F' H', Gr E.pp F H F' H' → H p = none → F' p = none → H' p = some (.lst vs) → Up R vs F' → Q (.ref p) H'
def tS (E : En) (G : List Sl) (Rt : V → Hp → Hp → Prop) (N : List Sl → Prop) : TS := fun D σ H => ∃ F, Sat E G σ F H ∧ (∀ G' σ' F' H', N G' → Sat E G' σ' F' H' → Ex F F' → D.nx σ' H') ∧ (∀ v F' H', Bs E F' H' → Rt v F' H' → D.rt v H')
def tO (E : En) (G : List Sl) (o : Option Int) : TO := fun σ H Q => ∃ F, Sat E G σ F H ∧ ∀ F' H', Gr E.pp F H F' H' → Q o H'
theorem Args.mono {Rs : List (V → Hp → Prop)} {vs : List V} {F F' : Hp} (a : Args Rs vs F) (e : Ex F F') : Args Rs vs F' := Paired.mapP a fun _ _ u => u.mono e
theorem Args.up {Rs : List (V → Hp → Prop)} {vs : List V} {F : Hp} (a : Args Rs vs F) : Up (Args Rs) vs F := fun _ e => a.mono e
theorem Args.len {Rs : List (V → Hp → Prop)} {vs : List V} {F : Hp} (a : Args Rs vs F) : Rs.length = vs.length := Paired.length a
theorem Args.get {Rs : List (V → Hp → Prop)} {vs : List V} {F : Hp} (a : Args Rs vs F) : ∀ {i : Nat} {R : V → Hp → Prop}, Rs[i]? = some R → ∃ v, vs[i]? = some v ∧ Up R v F := by
  have h : ∀ {Rs : List (V → Hp → Prop)} {vs : List V}, Paired (fun R v => Up R v F) Rs vs → ∀ {i : Nat} {R : V → Hp → Prop}, Rs[i]? = some R → ∃ v, vs[i]? = some v ∧ Up R v F := by
    intro Rs vs p
    induction p with
    | nil => intro i R e; simp at e
    | cons r t ih =>
      intro i R e
      cases i with
      | zero =>
        simp at e
        subst e
        exact ⟨_, rfl, r⟩
      | succ i =>
        simp at e
        obtain ⟨v, e1, u⟩ := ih e
        exact ⟨v, by simpa using e1, u⟩
  exact @h _ _ a

section
variable {X : Cx} {e : Expr} {st : Stmt}
theorem PE_imp {t t' : TE} (h : PE X e t) (i : ∀ σ H Q, t' σ H Q → t σ H Q) : PE X e t' := ⟨fun pins s σ H Q I hw => h.run pins s σ H Q I (i _ _ _ hw)⟩
theorem PT_imp {t t' : TT} (h : PT X e t) (i : ∀ σ H Q, t' σ H Q → t σ H Q) : PT X e t' := ⟨fun pins s σ H Q I hw => h.run pins s σ H Q I (i _ _ _ hw)⟩
theorem PW_imp {t t' : TT} (h : PW X e t) (i : ∀ σ H Q, t' σ H Q → t σ H Q) : PW X e t' := ⟨fun wh pins s σ H Q I hw => h.run wh pins s σ H Q I (i _ _ _ hw)⟩
theorem PA_imp {es : List Expr} {t t' : TA} (h : PA X es t) (i : ∀ σ H Q, t' σ H Q → t σ H Q) : PA X es t' := ⟨fun pos pins s σ H Q I hw => h.run pos pins s σ H Q I (i _ _ _ hw)⟩
theorem PK_imp {es : List Keyword} {t t' : TA} (h : PK X es t) (i : ∀ σ H Q, t' σ H Q → t σ H Q) : PK X es t' := ⟨fun pos pins s σ H Q I hw => h.run pos pins s σ H Q I (i _ _ _ hw)⟩
theorem PS_imp {t t' : TS} (h : PS X st t) (i : ∀ D σ H, t' D σ H → t D σ H) : PS X st t' := ⟨fun pins s σ H D I hw => h.run pins s σ H D I (i _ _ _ hw)⟩
theorem PSs_imp {st : List Stmt} {t t' : TS} (h : PSs X st t) (i : ∀ D σ H, t' D σ H → t D σ H) : PSs X st t' := ⟨fun pins s σ H D I hw => h.run pins s σ H D I (i _ _ _ hw)⟩
theorem PI_imp {tg : Expr} {t t' : TI} (h : PI X tg e t) (i : ∀ σ H R, t' σ H R → t σ H R) : PI X tg e t' := ⟨fun pins s σ H R I hw => h.run pins s σ H R I (i _ _ _ hw)⟩
theorem PG_imp {t t' : TG} (h : PG X e t) (i : ∀ v σ H Q, t' v σ H Q → t v σ H Q) : PG X e t' := ⟨fun pins s σ H v u Q I r hw => h.run pins s σ H v u Q I r (i _ _ _ _ hw)⟩
theorem PO_imp {o : Option Expr} {t t' : TO} (h : PO X o t) (i : ∀ σ H Q, t' σ H Q → t σ H Q) : PO X o t' := ⟨fun pins s σ H Q I hw => h.run pins s σ H Q I (i _ _ _ hw)⟩
/-- for every kind of ending that can be: a family of readings -/
theorem PSs_any {ι : Type} {st : List Stmt} {t : ι → TS} (h : ∀ i, PSs X st (t i)) : PSs X st (fun D σ H => ∃ i, t i D σ H) := ⟨fun pins s σ H D I ⟨i, hw⟩ => (h i).run pins s σ H D I hw⟩
theorem PE_any {ι : Type} {t : ι → TE} (h : ∀ i, PE X e (t i)) : PE X e (fun σ H Q => ∃ i, t i σ H Q) := ⟨fun pins s σ H Q I ⟨i, hw⟩ => (h i).run pins s σ H Q I hw⟩
theorem PT_any {ι : Type} {t : ι → TT} (h : ∀ i, PT X e (t i)) : PT X e (fun σ H Q => ∃ i, t i σ H Q) := ⟨fun pins s σ H Q I ⟨i, hw⟩ => (h i).run pins s σ H Q I hw⟩
theorem PTs_any {ι : Type} {es : List Expr} {t : ι → TT} (h : ∀ i, PTs X es (t i)) : PTs X es (fun σ H Q => ∃ i, t i σ H Q) := ⟨fun pins s σ H Q I ⟨i, hw⟩ => (h i).run pins s σ H Q I hw⟩
end

section
variable {X : Cx} {E : En} {G : List Sl} {e a b c : Expr} {R R' Ra Rb Rz : V → Hp → Prop} {pos : Pos}
theorem je_conv (p : PE X e (tE E G R)) (h : ∀ v F, R v F → R' v F) : PE X e (tE E G R') := PE_imp p fun σ H Q ⟨F, S, k⟩ => ⟨F, S, fun v F' H' g u => k v F' H' g (u.imp fun F q => h v F q)⟩
theorem je_var {i : Nat} (p : PE X e (tVar i)) (h : G[i]? = some (.fz R)) : PE X e (tE E G R) := PE_imp p fun σ H Q ⟨F, S, k⟩ => by
  obtain ⟨v, q, u⟩ := S.fz i R h
  exact ⟨v, q, k v F H S.refl u⟩
theorem je_c {v : V} (p : PE X e (tC v)) (h : ∀ F, R v F) : PE X e (tE E G R) := PE_imp p fun σ H Q ⟨F, S, k⟩ => k v F H S.refl fun F' _ => h F'
/-- two-place operations on values -/
def ROp (pp : Option Addr) (r : R2) (Ra Rb Rz : V → Hp → Prop) : Prop := ∀ x y F H (Q : VK), Ok pp F H → Up Ra x F → Up Rb y F → (∀ z F' H', Gr pp F H F' H' → Up Rz z F' → Q z H') → r x y H Q
theorem je_op {r : R2} (p : PE X e (tOp r (tE E G Ra) (tE E G Rb))) (h : ROp E.pp r Ra Rb Rz) : PE X e (tE E G Rz) := PE_imp p fun σ H Q ⟨F, S, k⟩ =>
  ⟨F, S, fun x F1 H1 g1 u1 => ⟨F1, S.gr g1, fun y F2 H2 g2 u2 => h x y F2 H2 Q g2.ok (u1.mono g2.f) u2 fun z F3 H3 g3 u3 => k z F3 H3 ((g1.trans g2).trans g3) u3⟩⟩
def RUn (pp : Option Addr) (r : V → Hp → VK → Prop) (Ra Rz : V → Hp → Prop) : Prop := ∀ x F H (Q : VK), Ok pp F H → Up Ra x F → (∀ z F' H', Gr pp F H F' H' → Up Rz z F' → Q z H') → r x H Q
theorem je_un {r : V → Hp → VK → Prop} (p : PE X e (fun σ H Q => tE E G Ra σ H fun x H1 => r x H1 Q)) (h : RUn E.pp r Ra Rz) : PE X e (tE E G Rz) := PE_imp p fun σ H Q ⟨F, S, k⟩ =>
  ⟨F, S, fun x F1 H1 g1 u1 => h x F1 H1 Q g1.ok u1 fun z F3 H3 g3 u3 => k z F3 H3 (g1.trans g3) u3⟩
/-- calls -/
def RC (pp : Option Addr) (r : List V → Hp → VK → Prop) (Rs : List (V → Hp → Prop)) (Rz : V → Hp → Prop) : Prop := ∀ vs F H (Q : VK), Ok pp F H → Args Rs vs F → (∀ z F' H', Gr pp F H F' H' → Up Rz z F' → Q z H') → r vs H Q
def RCM (pp : Option Addr) (r : List V → Hp → VK → Prop) (Rs : List (V → Hp → Prop)) (Rz : List V → Hp → Prop) : Prop := ∀ vs F H (Q : VK), Ok pp F H → Args Rs vs F → (∀ p ws F' H', Gr pp F H F' H' → H p = none → F' p = none → H' p = some (.lst ws) → Up Rz ws F' → Q (.ref p) H') → r vs H Q
theorem je_cb {r : List V → Hp → VK → Prop} {Rs : List (V → Hp → Prop)} (p : PE X e (tCB r (tA E G Rs))) (h : RC E.pp r Rs Rz) : PE X e (tE E G Rz) := PE_imp p fun σ H Q ⟨F, S, k⟩ =>
  ⟨F, S, fun vs F1 H1 g1 a => h vs F1 H1 Q g1.ok a fun z F3 H3 g3 u3 => k z F3 H3 (g1.trans g3) u3⟩
theorem jm_cb {r : List V → Hp → VK → Prop} {Rs : List (V → Hp → Prop)} {Rm : List V → Hp → Prop} (p : PE X e (tCB r (tA E G Rs))) (h : RCM E.pp r Rs Rm) : PE X e (tM E G Rm) := PE_imp p fun σ H Q ⟨F, S, k⟩ =>
  ⟨F, S, fun vs F1 H1 g1 a => h vs F1 H1 Q g1.ok a fun q ws F3 H3 g3 n1 n2 n3 u3 => k q ws F3 H3 (g1.trans g3) (g1.back n1) n2 n3 u3⟩
theorem ja_nil : PA X [] (tA E G []) := PA_imp pa_nil fun σ H Q ⟨F, S, k⟩ => k [] F H S.refl .nil
theorem ja_cons {es : List Expr} {Rs : List (V → Hp → Prop)} (h : PE X e (tE E G R)) (hr : PA X es (tA E G Rs)) (hs : starEach (e :: es) X.env = (false, eval e X.env) :: starEach es X.env := by rfl) : PA X (e :: es) (tA E G (R :: Rs)) :=
  PA_imp (pa_cons h hr hs) fun σ H Q ⟨F, S, k⟩ => ⟨F, S, fun x F1 H1 g1 u1 => ⟨F1, S.gr g1, fun vs F2 H2 g2 a => k (x :: vs) F2 H2 (g1.trans g2) (.cons (u1.mono g2.f) a)⟩⟩
theorem jk_nil : PK X [] (tA E G []) := PK_imp pk_nil fun σ H Q ⟨F, S, k⟩ => k [] F H S.refl .nil
theorem jk_cons {nm : Option Str} {kpos : Pos} {es : List Keyword} {Rs : List (V → Hp → Prop)} (h : PE X e (tE E G R)) (hr : PK X es (tA E G Rs)) : PK X (⟨nm, e, kpos⟩ :: es) (tA E G (R :: Rs)) :=
  PK_imp (pk_cons h hr) fun σ H Q ⟨F, S, k⟩ => ⟨F, S, fun x F1 H1 g1 u1 => ⟨F1, S.gr g1, fun vs F2 H2 g2 a => k (x :: vs) F2 H2 (g1.trans g2) (.cons (u1.mono g2.f) a)⟩⟩
theorem Args.app {Rs Ss : List (V → Hp → Prop)} {vs ws : List V} {F : Hp} (a : Args Rs vs F) (b : Args Ss ws F) : Args (Rs ++ Ss) (vs ++ ws) F := by
  have h : ∀ {Rs : List (V → Hp → Prop)} {vs : List V}, Paired (fun R v => Up R v F) Rs vs → Paired (fun R v => Up R v F) (Rs ++ Ss) (vs ++ ws) := by
    intro Rs vs p
    induction p with
    | nil => exact b
    | cons r t ih => exact .cons r ih
  exact @h _ _ a
/-- a call with keywords: the parameters in their order -/
theorem je_ck {sp : Sp} {gV : List V → List V → List V} {E' : XK} {Rs Ss Ts : List (V → Hp → Prop)} (p : PE X e (tCallK sp gV E' (tA E G Rs) (tA E G Ss)))
    (hg : ∀ vs ws F, Args Rs vs F → Args Ss ws F → Args Ts (gV vs ws) F) (h : RC E.pp (fun vs H Q => sp vs H Q E') Ts Rz) : PE X e (tE E G Rz) := PE_imp p fun σ H Q ⟨F, S, k⟩ =>
  ⟨F, S, fun vs F1 H1 g1 a1 => ⟨F1, S.gr g1, fun ws F2 H2 g2 a2 => h _ F2 H2 Q g2.ok (hg vs ws F2 (a1.mono g2.f) a2) fun z F3 H3 g3 u3 => k z F3 H3 ((g1.trans g2).trans g3) u3⟩⟩

/-! ### new lists -/
theorem Gr_frz {pp : Option Addr} {F H F' H' : Hp} {p : Addr} {o : HO} (k : Ok pp F H) (g : Gr pp F H F' H') (n1 : H p = none) (n2 : F' p = none) (n3 : H' p = some o) : Gr pp F H (upd F' p o) H' where
  f := g.f.trans (Ex.new n2)
  s := fun a u e => by
    by_cases q : a = p
    · subst q
      rw [upd_same] at e
      cases e
      exact n3
    · rw [upd_ne q] at e
      exact g.s a u e
  k := g.k
  n := fun a u e => by
    by_cases q : a = p
    · rw [q]
      exact .inr n1
    · rw [upd_ne q] at e
      exact g.n a u e
  p := fun a ha => by
    obtain ⟨q1, q2⟩ := g.p a ha
    obtain ⟨_, x, y, h2, _⟩ := k.p a ha
    have q : a ≠ p := ne_of_none h2 n1
    exact ⟨by rw [upd_ne q]; exact q1, q2⟩
/-- a new list frozen at once -/
theorem je_m {Rm : List V → Hp → Prop} (p : PE X e (tM E G Rm)) : PE X e (tE E G (LstOf Rm)) := PE_imp p fun σ H Q ⟨F, S, k⟩ =>
  ⟨F, S, fun p vs F' H' g n1 n2 n3 u => k (.ref p) (upd F' p (.lst vs)) H' (Gr_frz S.ok g n1 n2 n3) fun F2 e2 => ⟨p, vs, rfl, e2 _ _ upd_same, (u.mono (Ex.new n2)).mono e2⟩⟩
theorem jm_conv {Rm Rn : List V → Hp → Prop} (p : PE X e (tM E G Rm)) (h : ∀ v F, Rm v F → Rn v F) : PE X e (tM E G Rn) := PE_imp p fun σ H Q ⟨F, S, k⟩ =>
  ⟨F, S, fun p vs F' H' g n1 n2 n3 u => k p vs F' H' g n1 n2 n3 (u.imp fun F q => h vs F q)⟩
theorem jm_lst {Rs : List (V → Hp → Prop)} (p : PE X e (tLst (tA E G Rs))) (hl : Rs.length ≤ sizeLine := by first | decide | (simp only [List.length_cons, List.length_nil]; decide)) : PE X e (tM E G (Args Rs)) := PE_imp p fun σ H Q ⟨F, S, k⟩ =>
  ⟨F, S, fun vs F1 H1 g1 a => ⟨by rw [← a.len]; exact hl, fun p hp => k p vs F1 (upd H1 p (.lst vs)) (g1.trans (Gr.raw g1.ok hp)) (g1.back hp) (g1.s.back hp) upd_same a.up⟩⟩
theorem je_tup {Rs : List (V → Hp → Prop)} (p : PE X e (tTup (tA E G Rs))) (hl : Rs.length ≤ sizeLine := by first | decide | (simp only [List.length_cons, List.length_nil]; decide)) : PE X e (tE E G (TupOf (Args Rs))) := PE_imp p fun σ H Q ⟨F, S, k⟩ =>
  ⟨F, S, fun vs F1 H1 g1 a => ⟨by rw [← a.len]; exact hl, fun p hp => k (.ref p) (upd F1 p (.tup vs)) (upd H1 p (.tup vs)) (g1.trans (Gr.new g1.ok hp)) fun F2 e2 =>
    ⟨p, vs, rfl, e2 _ _ upd_same, (a.mono (Ex.new (g1.s.back hp))).mono e2 |>.up⟩⟩⟩
/-- an operation that makes a new list -/
def ROpM (pp : Option Addr) (r : R2) (Ra Rb : V → Hp → Prop) (Rz : List V → Hp → Prop) : Prop := ∀ x y F H (Q : VK), Ok pp F H → Up Ra x F → Up Rb y F → (∀ p ws F' H', Gr pp F H F' H' → H p = none → F' p = none → H' p = some (.lst ws) → Up Rz ws F' → Q (.ref p) H') → r x y H Q
theorem jm_op {r : R2} {Rm : List V → Hp → Prop} (p : PE X e (tOp r (tE E G Ra) (tE E G Rb))) (h : ROpM E.pp r Ra Rb Rm) : PE X e (tM E G Rm) := PE_imp p fun σ H Q ⟨F, S, k⟩ =>
  ⟨F, S, fun x F1 H1 g1 u1 => ⟨F1, S.gr g1, fun y F2 H2 g2 u2 => h x y F2 H2 Q g2.ok (u1.mono g2.f) u2 fun q ws F3 H3 g3 n1 n2 n3 u3 => k q ws F3 H3 ((g1.trans g2).trans g3) ((g1.trans g2).back n1) n2 n3 u3⟩⟩

/-! ### tests -/
def IsB (b : Bool) (v : V) (_ : Hp) : Prop := v = .bl b
def IsI (i : Int) (v : V) (_ : Hp) : Prop := v = .int i
def IsN (v : V) (_ : Hp) : Prop := v = .non
def IsS (s : Str) (v : V) (_ : Hp) : Prop := v = .str s
def IsTy (n : String) (v : V) (_ : Hp) : Prop := v = .ty n
variable {b1 b2 : Bool}
theorem jt_val (p : PT X e (tB (tE E G (IsB b1)))) : PT X e (tT E G b1) := PT_imp p fun σ H Q ⟨F, S, k⟩ => ⟨F, S, fun v F' H' g u => ⟨b1, u.here, k F' H' g⟩⟩
theorem jt_cmp {r : R2} (p : PT X e (tTest (tOp r (tE E G Ra) (tE E G Rb)))) (h : ROp E.pp r Ra Rb (IsB b1)) : PT X e (tT E G b1) := PT_imp p fun σ H Q ⟨F, S, k⟩ =>
  ⟨F, S, fun x F1 H1 g1 u1 => ⟨F1, S.gr g1, fun y F2 H2 g2 u2 => h x y F2 H2 _ g2.ok (u1.mono g2.f) u2 fun z F3 H3 g3 u3 => ⟨b1, u3.here, k F3 H3 ((g1.trans g2).trans g3)⟩⟩⟩
theorem jt_eq (p : PT X e (tT E G b1)) (h : b1 = b2) : PT X e (tT E G b2) := by rw [← h]; exact p
theorem je_eq (p : PE X e (tE E G R)) (h : R = R') : PE X e (tE E G R') := by rw [← h]; exact p
theorem jt_not (p : PT X a (tT E G b1)) : PT X (.UnaryOp .Not a pos) (tT E G (!b1)) := PT_imp (pt_not p) fun σ H Q ⟨F, S, k⟩ => ⟨F, S, fun F' H' g => k F' H' g⟩
theorem PW_when {B : Prop} {t : TT} (h : B → PW X e t) : PW X e (fun σ H Q => B ∧ t σ H Q) := ⟨fun wh pins s σ H Q I hw => (h hw.1).run wh pins s σ H Q I hw.2⟩
theorem PE_when {B : Prop} {t : TE} (h : B → PE X e t) : PE X e (fun σ H Q => B ∧ t σ H Q) := ⟨fun pins s σ H Q I hw => (h hw.1).run pins s σ H Q I hw.2⟩
theorem PSs_when {B : Prop} {st : List Stmt} {t : TS} (h : B → PSs X st t) : PSs X st (fun D σ H => B ∧ t D σ H) := ⟨fun pins s σ H D I hw => (h hw.1).run pins s σ H D I hw.2⟩
theorem jw_and1 (p : PT X a (tT E G b1)) : PW X (.BoolOp .And [a] pos) (tT E G b1) := pw_and1 p
theorem jw_or1 (p : PT X a (tT E G b1)) : PW X (.BoolOp .Or [a] pos) (tT E G b1) := pw_or1 p
theorem jw_and {rest : List Expr} (p : PT X a (tT E G b1)) (q : b1 = true → PW X (.BoolOp .And (b :: rest) pos) (tT E G b2)) : PW X (.BoolOp .And (a :: b :: rest) pos) (tT E G (b1 && b2)) :=
  PW_imp (pw_and p (PW_when q)) fun σ H Q ⟨F, S, k⟩ => ⟨F, S, fun F1 H1 g1 => by
    cases b1 with
    | true =>
      show (true = true ∧ tT E G b2 σ H1 Q)
      exact ⟨rfl, F1, S.gr g1, fun F2 H2 g2 => k F2 H2 (g1.trans g2)⟩
    | false =>
      show Q false H1
      exact k F1 H1 g1⟩
theorem jw_or {rest : List Expr} (p : PT X a (tT E G b1)) (q : b1 = false → PW X (.BoolOp .Or (b :: rest) pos) (tT E G b2)) : PW X (.BoolOp .Or (a :: b :: rest) pos) (tT E G (b1 || b2)) :=
  PW_imp (pw_or p (PW_when q)) fun σ H Q ⟨F, S, k⟩ => ⟨F, S, fun F1 H1 g1 => by
    cases b1 with
    | true =>
      show Q true H1
      exact k F1 H1 g1
    | false =>
      show (false = false ∧ tT E G b2 σ H1 Q)
      exact ⟨rfl, F1, S.gr g1, fun F2 H2 g2 => k F2 H2 (g1.trans g2)⟩⟩
theorem je_and {rest : List Expr} (p : PE X a (tE E G (IsB b1))) (q : b1 = true → PE X (.BoolOp .And (b :: rest) pos) (tE E G (IsB b2))) : PE X (.BoolOp .And (a :: b :: rest) pos) (tE E G (IsB (b1 && b2))) :=
  PE_imp (pe_and p (PE_when q)) fun σ H Q ⟨F, S, k⟩ => ⟨F, S, fun v F1 H1 g1 u1 => ⟨b1, u1.here, by
    cases b1 with
    | true =>
      show (true = true ∧ tE E G (IsB b2) σ H1 Q)
      exact ⟨rfl, F1, S.gr g1, fun v F2 H2 g2 u2 => k v F2 H2 (g1.trans g2) u2⟩
    | false =>
      show Q (.bl false) H1
      exact k (.bl false) F1 H1 g1 fun _ _ => rfl⟩⟩
theorem je_or {rest : List Expr} (p : PE X a (tE E G (IsB b1))) (q : b1 = false → PE X (.BoolOp .Or (b :: rest) pos) (tE E G (IsB b2))) : PE X (.BoolOp .Or (a :: b :: rest) pos) (tE E G (IsB (b1 || b2))) :=
  PE_imp (pe_or p (PE_when q)) fun σ H Q ⟨F, S, k⟩ => ⟨F, S, fun v F1 H1 g1 u1 => ⟨b1, u1.here, by
    cases b1 with
    | true =>
      show Q (.bl true) H1
      exact k (.bl true) F1 H1 g1 fun _ _ => rfl
    | false =>
      show (false = false ∧ tE E G (IsB b2) σ H1 Q)
      exact ⟨rfl, F1, S.gr g1, fun v F2 H2 g2 u2 => k v F2 H2 (g1.trans g2) u2⟩⟩⟩
theorem je_not (p : PE X a (tE E G (IsB b1))) : PE X (.UnaryOp .Not a pos) (tE E G (IsB (!b1))) :=
  PE_imp (pe_not p) fun σ H Q ⟨F, S, k⟩ => ⟨F, S, fun v F1 H1 g1 u1 => ⟨b1, u1.here, k _ F1 H1 g1 fun _ _ => rfl⟩⟩
theorem je_if (hc : PT X c (tT E G b1)) (ha : b1 = true → PE X a (tE E G R)) (hb : b1 = false → PE X b (tE E G R)) : PE X (.IfExp c a b pos) (tE E G R) :=
  PE_imp (pe_ifExp hc (PE_when ha) (PE_when hb)) fun σ H Q ⟨F, S, k⟩ => ⟨F, S, fun F1 H1 g1 => by
    cases b1 with
    | true =>
      show (true = true ∧ tE E G R σ H1 Q)
      exact ⟨rfl, F1, S.gr g1, fun v F2 H2 g2 u2 => k v F2 H2 (g1.trans g2) u2⟩
    | false =>
      show (false = false ∧ tE E G R σ H1 Q)
      exact ⟨rfl, F1, S.gr g1, fun v F2 H2 g2 u2 => k v F2 H2 (g1.trans g2) u2⟩⟩
/-- a op b op c on plain values -/
theorem je_chain {r r' : R2} {Rc : V → Hp → Prop} (p : PE X e (tChain r r' (tE E G Ra) (tE E G Rb) (tE E G Rc))) (h1 : ROp E.pp r Ra Rb (IsB b1)) (h2 : ROp E.pp r' Rb Rc (IsB b2)) : PE X e (tE E G (IsB (b1 && b2))) :=
  PE_imp p fun σ H Q ⟨F, S, k⟩ => ⟨F, S, fun x F1 H1 g1 u1 => ⟨F1, S.gr g1, fun y F2 H2 g2 u2 => h1 x y F2 H2 _ g2.ok (u1.mono g2.f) u2 fun z F3 H3 g3 u3 => ⟨b1, u3.here, by
    cases b1 with
    | true =>
      show tE E G Rc σ H3 fun w' H4 => r' y w' H4 Q
      exact ⟨F3, S.gr ((g1.trans g2).trans g3), fun w F4 H4 g4 u4 => h2 y w F4 H4 Q g4.ok ((u2.mono g3.f).mono g4.f) u4 fun z' F5 H5 g5 u5 => k z' F5 H5 ((((g1.trans g2).trans g3).trans g4).trans g5) u5⟩
    | false =>
      show Q (.bl false) H3
      exact k (.bl false) F3 H3 ((g1.trans g2).trans g3) fun _ _ => rfl⟩⟩⟩
theorem jt_chain {r r' : R2} {Rc : V → Hp → Prop} (p : PT X e (tTest (tChain r r' (tE E G Ra) (tE E G Rb) (tE E G Rc)))) (h1 : ROp E.pp r Ra Rb (IsB b1)) (h2 : ROp E.pp r' Rb Rc (IsB b2)) : PT X e (tT E G (b1 && b2)) :=
  PT_imp p fun σ H Q ⟨F, S, k⟩ => ⟨F, S, fun x F1 H1 g1 u1 => ⟨F1, S.gr g1, fun y F2 H2 g2 u2 => h1 x y F2 H2 _ g2.ok (u1.mono g2.f) u2 fun z F3 H3 g3 u3 => ⟨b1, u3.here, by
    cases b1 with
    | true =>
      show tE E G Rc σ H3 _
      exact ⟨F3, S.gr ((g1.trans g2).trans g3), fun w F4 H4 g4 u4 => h2 y w F4 H4 _ g4.ok ((u2.mono g3.f).mono g4.f) u4 fun z' F5 H5 g5 u5 => ⟨b2, u5.here, k F5 H5 ((((g1.trans g2).trans g3).trans g4).trans g5)⟩⟩
    | false =>
      exact ⟨false, rfl, k F3 H3 ((g1.trans g2).trans g3)⟩⟩⟩⟩
/-- reading a list that may still turn, where the answer is plain -/
def Pl (R : V → Hp → Prop) : Prop := ∀ v F F', R v F → R v F'
theorem hide_gr {pp : Option Addr} {F H F' H' : Hp} {p : Addr} {o : HO} (k : Ok pp F H) (hF : F p = none) (hH : H p = some o) (g : Gr pp (upd F p o) H F' H') : Gr pp F H (fun a => if a = p then none else F' a) H' where
  f := fun a u e => by
    have q : a ≠ p := ne_of_none e hF
    show (if a = p then none else F' a) = some u
    rw [if_neg q]
    exact g.f a u (by rw [upd_ne q]; exact e)
  s := fun a u e => by
    have e' : (if a = p then none else F' a) = some u := e
    by_cases q : a = p
    · rw [if_pos q] at e'
      cases e'
    · rw [if_neg q] at e'
      exact g.s a u e'
  k := g.k
  n := fun a u e => by
    have e' : (if a = p then none else F' a) = some u := e
    by_cases q : a = p
    · rw [if_pos q] at e'
      cases e'
    · rw [if_neg q] at e'
      rcases g.n a u e' with z | z
      · rw [upd_ne q] at z
        exact .inl z
      · exact .inr z
  p := fun a ha => by
    obtain ⟨q1, q2⟩ := g.p a ha
    refine ⟨?_, q2⟩
    show (if a = p then none else F' a) = none
    by_cases q : a = p
    · rw [if_pos q]
    · rw [if_neg q]
      exact q1
theorem je_view {i : Nat} {Rm : List V → Hp → Prop} (hG : G[i]? = some (.mt Rm)) (hR : Pl R) (p : PE X e (tE E (G.set i (.fz (LstOf Rm))) R)) : PE X e (tE E G R) := PE_imp p fun σ H Q ⟨F, S, k⟩ => by
  obtain ⟨p, vs, e, h1, h2, h3, h4, S'⟩ := S.freeze hG
  exact ⟨_, S', fun v F2 H2 g u => k v _ H2 (hide_gr S.ok h1 h3 g) fun F3 _ => hR v F2 F3 u.here⟩
end
end Gw
set_option maxHeartbeats 4000000
namespace Gw
open PySem PySem.Spec PyProof.Rows L2

/-! ### values by kinds -/
def LsOf {α : Type} (R : α → V → Hp → Prop) (xs : List α) (vs : List V) (F : Hp) : Prop := Paired (fun x v => Up (R x) v F) xs vs
abbrev IsL {α : Type} (R : α → V → Hp → Prop) (xs : List α) : V → Hp → Prop := LstOf (LsOf R xs)
abbrev IsTs {α : Type} (R : α → V → Hp → Prop) (xs : List α) : V → Hp → Prop := TupOf (LsOf R xs)
abbrev IsTp (Rs : List (V → Hp → Prop)) : V → Hp → Prop := TupOf (Args Rs)
def IsSq {α : Type} (R : α → V → Hp → Prop) (xs : List α) (v : V) (F : Hp) : Prop := IsL R xs v F ∨ IsTs R xs v F
theorem LsOf.up {α : Type} {R : α → V → Hp → Prop} {xs : List α} {vs : List V} {F : Hp} (h : LsOf R xs vs F) : Up (LsOf R xs) vs F := fun _ e => Paired.mapP h fun _ _ u => u.mono e
theorem LstOf.up {R : List V → Hp → Prop} {v : V} {F : Hp} (h : LstOf R v F) : Up (LstOf R) v F := fun F' e => by
  obtain ⟨a, vs, e1, e2, u⟩ := h
  exact ⟨a, vs, e1, e _ _ e2, u.mono e⟩
theorem TupOf.up {R : List V → Hp → Prop} {v : V} {F : Hp} (h : TupOf R v F) : Up (TupOf R) v F := fun F' e => by
  obtain ⟨a, vs, e1, e2, u⟩ := h
  exact ⟨a, vs, e1, e _ _ e2, u.mono e⟩
theorem LsOf.len {α : Type} {R : α → V → Hp → Prop} {xs : List α} {vs : List V} {F : Hp} (h : LsOf R xs vs F) : xs.length = vs.length := Paired.length h
theorem paired_get {α β : Type} {P : α → β → Prop} {xs : List α} {ys : List β} (p : Paired P xs ys) : ∀ (i : Nat) (x : α), xs[i]? = some x → ∃ y, ys[i]? = some y ∧ P x y := by
  induction p with
  | nil => intro i x e; simp at e
  | cons r t ih =>
    intro i x e
    cases i with
    | zero =>
      simp at e
      subst e
      exact ⟨_, rfl, r⟩
    | succ i =>
      simp at e
      obtain ⟨y, e1, u⟩ := ih i x e
      exact ⟨y, by simpa using e1, u⟩
theorem LsOf.get {α : Type} {R : α → V → Hp → Prop} {xs : List α} {vs : List V} {F : Hp} (h : LsOf R xs vs F) {i : Nat} {x : α} (e : xs[i]? = some x) : ∃ v, vs[i]? = some v ∧ Up (R x) v F := paired_get h i x e
theorem LsOf.snoc {α : Type} {R : α → V → Hp → Prop} {xs : List α} {vs : List V} {F : Hp} {x : α} {v : V} (h : LsOf R xs vs F) (u : Up (R x) v F) : LsOf R (xs ++ [x]) (vs ++ [v]) F := Paired.snoc h u
theorem LsOf.nil {α : Type} {R : α → V → Hp → Prop} {F : Hp} : LsOf R ([] : List α) [] F := Paired.nil
theorem paired_app {α β : Type} {P : α → β → Prop} {xs xs' : List α} {ys ys' : List β} (p : Paired P xs ys) (q : Paired P xs' ys') : Paired P (xs ++ xs') (ys ++ ys') := by
  induction p with
  | nil => exact q
  | cons r t ih => exact .cons r ih
theorem paired_drop {α β : Type} {P : α → β → Prop} {xs : List α} {ys : List β} (p : Paired P xs ys) : ∀ n, Paired P (xs.drop n) (ys.drop n) := by
  induction p with
  | nil => intro n; simp; exact .nil
  | cons r t ih =>
    intro n
    cases n with
    | zero => exact .cons r t
    | succ n => exact ih n
theorem paired_take {α β : Type} {P : α → β → Prop} {xs : List α} {ys : List β} (p : Paired P xs ys) : ∀ n, Paired P (xs.take n) (ys.take n) := by
  induction p with
  | nil => intro n; simp; exact .nil
  | cons r t ih =>
    intro n
    cases n with
    | zero => exact .nil
    | succ n => exact .cons r (ih n)
theorem paired_set {α β : Type} {P : α → β → Prop} {xs : List α} {ys : List β} {a : α} {b : β} (p : Paired P xs ys) (h : P a b) : ∀ n, Paired P (xs.set n a) (ys.set n b) := by
  induction p with
  | nil => intro n; exact .nil
  | cons r t ih =>
    intro n
    cases n with
    | zero => exact .cons h t
    | succ n => exact .cons r (ih n)
theorem args_ls {α : Type} {R : α → V → Hp → Prop} {F : Hp} : ∀ {xs : List α} {vs : List V}, Args (xs.map R) vs F → LsOf R xs vs F
  | [], [], _ => .nil
  | x :: xs, v :: vs, .cons r t => .cons r (args_ls t)
theorem ls_args {α : Type} {R : α → V → Hp → Prop} {F : Hp} : ∀ {xs : List α} {vs : List V}, LsOf R xs vs F → Args (xs.map R) vs F
  | [], [], _ => .nil
  | x :: xs, v :: vs, .cons r t => .cons r (ls_args t)
/-- a display as a list of one kind: xs.map R is the displays' kinds -/
theorem jm_ls {X : Cx} {E : En} {G : List Sl} {e : Expr} {α : Type} {R : α → V → Hp → Prop} (xs : List α) {Rs : List (V → Hp → Prop)} (p : PE X e (tM E G (Args Rs))) (h : Rs = xs.map R := by rfl) : PE X e (tM E G (LsOf R xs)) := by
  subst h
  exact jm_conv p fun v F q => args_ls q

section
variable {X : Cx} {E : En} {G : List Sl} {e a b c : Expr} {R R' Ra Rb Rz : V → Hp → Prop} {pos : Pos} {st : Stmt} {rest body : List Stmt} {Rt : V → Hp → Hp → Prop} {N N1 : List Sl → Prop}
/-! ### statements -/
theorem js_cons (p : PS X st (tS E G Rt N1)) (q : ∀ G1, N1 G1 → PSs X rest (tS E G1 Rt N)) : PSs X (st :: rest) (tS E G Rt N) :=
  PSs_imp (pss_cons p (PSs_any (ι := { G1 // N1 G1 }) (t := fun i => tS E i.1 Rt N) fun i => q i.1 i.2)) fun D σ H ⟨F, S, kn, kr⟩ =>
    ⟨F, S, fun G1 σ1 F1 H1 n1 S1 e1 => ⟨⟨G1, n1⟩, F1, S1, fun G2 σ2 F2 H2 n2 S2 e2 => kn G2 σ2 F2 H2 n2 S2 (e1.trans e2), kr⟩, kr⟩
theorem js_seq {G1 : List Sl} (p : PS X st (tS E G Rt (· = G1))) (q : PSs X rest (tS E G1 Rt N)) : PSs X (st :: rest) (tS E G Rt N) := js_cons p fun G2 h => by
  subst h
  exact q
theorem js_one (p : PS X st (tS E G Rt N)) : PSs X [st] (tS E G Rt N) := pss_one p
theorem js_nil (h : N G) : PSs X [] (tS E G Rt N) := PSs_imp pss_nil fun D σ H ⟨F, S, kn, kr⟩ => kn G σ F H h S (Ex.refl F)
theorem js_N (p : PS X st (tS E G Rt N1)) (h : ∀ G', N1 G' → N G') : PS X st (tS E G Rt N) := PS_imp p fun D σ H ⟨F, S, kn, kr⟩ => ⟨F, S, fun G' σ' F' H' n => kn G' σ' F' H' (h G' n), kr⟩
theorem jss_N {st : List Stmt} (p : PSs X st (tS E G Rt N1)) (h : ∀ G', N1 G' → N G') : PSs X st (tS E G Rt N) := PSs_imp p fun D σ H ⟨F, S, kn, kr⟩ => ⟨F, S, fun G' σ' F' H' n => kn G' σ' F' H' (h G' n), kr⟩
theorem js_set {i : Nat} (p : PS X st (tAsg (tE E G R) (gName i))) : PS X st (tS E G Rt (· = G.set i (.fz R))) := PS_imp p fun D σ H ⟨F, S, kn, kr⟩ =>
  ⟨F, S, fun v F' H' g u => kn _ _ F' H' rfl ((S.gr g).set_fz u) g.f⟩
theorem fresh_mt {σ : L2.St} {F H : Hp} (S : Sat E G σ F H) {p : Addr} (hp : H p = none) {j : Nat} {Rm : List V → Hp → Prop} (h : G[j]? = some (.mt Rm)) (hs : σ[j]? = some (some (.ref p))) : False := by
  obtain ⟨q, vs, e, _, _, e3, _⟩ := S.mt j Rm h
  rw [hs] at e
  cases e
  rw [hp] at e3
  cases e3
theorem Bs.none {F H : Hp} (b : Bs E F H) {p : Addr} (h : H p = none) : E.H p = none := b.back h
theorem js_setM {i : Nat} {Rm : List V → Hp → Prop} (p : PS X st (tAsg (tM E G Rm) (gName i))) : PS X st (tS E G Rt (· = G.set i (.mt Rm))) := PS_imp p fun D σ H ⟨F, S, kn, kr⟩ =>
  ⟨F, S, fun p vs F' H' g n1 n2 n3 u => kn _ _ F' H' rfl ((S.gr g).set_mt n2 (S.bs.back n1) n3 u fun j Rj _ h hs => fresh_mt S n1 h hs) g.f⟩
def Rn (R : V → Hp → Prop) : V → Hp → Hp → Prop := fun v F _ => Up R v F
def RnM (E : En) (Rm : List V → Hp → Prop) : V → Hp → Hp → Prop := fun v F H => ∃ p vs, v = .ref p ∧ E.H p = none ∧ F p = none ∧ H p = some (.lst vs) ∧ Up Rm vs F
theorem js_ret (p : PE X e (tE E G R)) : PS X (.Return (some e) pos) (tS E G (Rn R) N) := PS_imp (ps_ret p) fun D σ H ⟨F, S, kn, kr⟩ => ⟨F, S, fun v F' H' g u => kr v F' H' (S.bs.trans g) u⟩
theorem js_retM {Rm : List V → Hp → Prop} (p : PE X e (tM E G Rm)) : PS X (.Return (some e) pos) (tS E G (RnM E Rm) N) := PS_imp (ps_ret p) fun D σ H ⟨F, S, kn, kr⟩ =>
  ⟨F, S, fun p vs F' H' g n1 n2 n3 u => kr (.ref p) F' H' (S.bs.trans g) ⟨p, vs, rfl, S.bs.back n1, n2, n3, u⟩⟩
/-- return of a list's name -/
theorem js_retV {i : Nat} {Rm : List V → Hp → Prop} (p : PE X e (tVar i)) (h : G[i]? = some (.mt Rm)) : PS X (.Return (some e) pos) (tS E G (Rn (LstOf Rm)) N) := PS_imp (ps_ret p) fun D σ H ⟨F, S, kn, kr⟩ => by
  obtain ⟨p, vs, e1, h1, h2, h3, h4, S2⟩ := S.freeze h
  exact ⟨.ref p, e1, kr _ _ H S2.bs (LstOf.up ⟨p, vs, rfl, upd_same, h4.mono (Ex.new h1)⟩)⟩
theorem js_retVM {i : Nat} {Rm : List V → Hp → Prop} (p : PE X e (tVar i)) (h : G[i]? = some (.mt Rm)) : PS X (.Return (some e) pos) (tS E G (RnM E Rm) N) := PS_imp (ps_ret p) fun D σ H ⟨F, S, kn, kr⟩ => by
  obtain ⟨p, vs, e1, h1, h2, h3, h4⟩ := S.mt i Rm h
  exact ⟨.ref p, e1, kr _ F H S.bs ⟨p, vs, rfl, h2, h1, h3, h4⟩⟩
theorem js_if {b1 : Bool} {p q : List Stmt} (hc : PT X c (tT E G b1)) (h1 : b1 = true → PSs X p (tS E G Rt N)) (h2 : b1 = false → PSs X q (tS E G Rt N)) : PS X (.If c p q pos) (tS E G Rt N) :=
  PS_imp (ps_if hc (PSs_when h1) (PSs_when h2)) fun D σ H ⟨F, S, kn, kr⟩ => ⟨F, S, fun F1 H1 g1 => by
    cases b1 with
    | true =>
      show (true = true ∧ tS E G Rt N D σ H1)
      exact ⟨rfl, F1, S.gr g1, fun G2 σ2 F2 H2 n2 S2 e2 => kn G2 σ2 F2 H2 n2 S2 (g1.f.trans e2), kr⟩
    | false =>
      show (false = false ∧ tS E G Rt N D σ H1)
      exact ⟨rfl, F1, S.gr g1, fun G2 σ2 F2 H2 n2 S2 e2 => kn G2 σ2 F2 H2 n2 S2 (g1.f.trans e2), kr⟩⟩
theorem js_never (h : False) : PS X st (tS E G Rt N) := h.elim
theorem jss_never {st : List Stmt} (h : False) : PSs X st (tS E G Rt N) := h.elim
theorem js_expr (p : PE X e (tE E G R)) (hs : swapsWith e none pos.line X.env = pure false := by rfl) : PS X (.Expr e pos) (tS E G Rt (· = G)) := PS_imp (ps_expr p hs) fun D σ H ⟨F, S, kn, kr⟩ =>
  ⟨F, S, fun v F' H' g u => kn G σ F' H' rfl (S.gr g) g.f⟩
/-- xs.append(e), xs a list of this def's own -/
theorem js_append {i : Nat} {Rm Rm' : List V → Hp → Prop} {K : PySem.W.Frag} (p : PS X st (tDrop (tBM K "list" rAppend (tVar i) (tCons (tE E G R) tNil)))) (h : G[i]? = some (.mt Rm))
    (ha : ∀ vs v F, Up Rm vs F → Up R v F → Up Rm' (vs ++ [v]) F) (hz : ∀ vs F, Rm vs F → vs.length < sizeLine) : PS X st (tS E G Rt (· = G.set i (.mt Rm'))) := PS_imp p fun D σ H ⟨F, S, kn, kr⟩ => by
  obtain ⟨p, vs, e1, h1, h2, h3, h4⟩ := S.mt i Rm h
  refine ⟨.ref p, e1, .inl ⟨rfl, vs, .inl (.inl h3)⟩, F, S, fun v F1 H1 g1 u1 => ?_⟩
  have S1 := S.gr g1
  obtain ⟨p', vs', e1', h1', h2', h3', h4'⟩ := S1.mt i Rm h
  rw [e1] at e1'
  cases e1'
  refine ⟨p, vs', v, rfl, rfl, h3', hz vs' F1 h4'.here, ?_⟩
  exact kn _ σ F1 _ rfl (S1.turn h e1 (ha vs' v F1 h4' u1)) g1.f
/-- xs.append(ys), both of this def's own: ys freezes -/
theorem js_appendM {i j : Nat} {Rm Rm' Rj : List V → Hp → Prop} {K : PySem.W.Frag} (p : PS X st (tDrop (tBM K "list" rAppend (tVar i) (tCons (tVar j) tNil)))) (hij : i ≠ j) (h : G[i]? = some (.mt Rm)) (hj : G[j]? = some (.mt Rj))
    (ha : ∀ vs v F, Up Rm vs F → Up (LstOf Rj) v F → Up Rm' (vs ++ [v]) F) (hz : ∀ vs F, Rm vs F → vs.length < sizeLine) : PS X st (tS E G Rt (· = (G.set j (.fz (LstOf Rj))).set i (.mt Rm'))) := PS_imp p fun D σ H ⟨F, S, kn, kr⟩ => by
  obtain ⟨q, ws, e2, k1, k2, k3, k4, S2⟩ := S.freeze hj
  have h' : (G.set j (.fz (LstOf Rj)))[i]? = some (.mt Rm) := by rw [List.getElem?_set_ne (Ne.symm hij)]; exact h
  obtain ⟨p, vs, e1, h1, h2, h3, h4⟩ := S2.mt i Rm h'
  refine ⟨.ref p, e1, .inl ⟨rfl, vs, .inl (.inl h3)⟩, .ref q, e2, p, vs, .ref q, rfl, rfl, h3, hz vs _ h4.here, ?_⟩
  exact kn _ σ _ _ rfl (S2.turn h' e1 (ha vs (.ref q) _ h4 (LstOf.up ⟨q, ws, rfl, upd_same, k4.mono (Ex.new k1)⟩))) (Ex.new k1)
/-- xs.extend(e) -/
theorem js_extend {α : Type} {Rx : α → V → Hp → Prop} {ys : List α} {i : Nat} {Rm Rm' : List V → Hp → Prop} {K : PySem.W.Frag} (p : PS X st (tDrop (tBM K "list" rExtend (tVar i) (tCons (tE E G (IsL Rx ys)) tNil)))) (h : G[i]? = some (.mt Rm))
    (ha : ∀ vs ws F, Up Rm vs F → LsOf Rx ys ws F → Up Rm' (vs ++ ws) F) (hz : ∀ vs F, Rm vs F → vs.length + ys.length ≤ sizeLine) : PS X st (tS E G Rt (· = G.set i (.mt Rm'))) := PS_imp p fun D σ H ⟨F, S, kn, kr⟩ => by
  obtain ⟨p, vs, e1, h1, h2, h3, h4⟩ := S.mt i Rm h
  refine ⟨.ref p, e1, .inl ⟨rfl, vs, .inl (.inl h3)⟩, F, S, fun v F1 H1 g1 u1 => ?_⟩
  have S1 := S.gr g1
  obtain ⟨p', vs', e1', h1', h2', h3', h4'⟩ := S1.mt i Rm h
  rw [e1] at e1'
  cases e1'
  obtain ⟨b, ws, rfl, hb, hw⟩ := u1.here
  refine ⟨p, b, vs', ws, rfl, rfl, h3', g1.s _ _ hb, ?_, ?_⟩
  · rw [← hw.here.len]
    exact hz vs' F1 h4'.here
  · exact kn _ σ F1 _ rfl (S1.turn h e1 (ha vs' ws F1 h4' hw.here)) g1.f
/-- xs[k] = e, xs of this def's own -/
theorem js_setitem {i : Nat} {k : Int} {j : Nat} {Rm Rm' : List V → Hp → Prop} {ti : TE} (p : PS X st (tAsg (tE E G R) (gSub (tVar i) (tE E G (IsI k)) rSetL))) (h : G[i]? = some (.mt Rm))
    (hk : ∀ vs F, Rm vs F → ixN vs.length k = some j) (ha : ∀ vs v F, Up Rm vs F → Up R v F → Up Rm' (vs.set j v) F) : PS X st (tS E G Rt (· = G.set i (.mt Rm'))) := PS_imp p fun D σ H ⟨F, S, kn, kr⟩ => by
  refine ⟨F, S, fun v F1 H1 g1 u1 => ?_⟩
  have S1 := S.gr g1
  obtain ⟨p, vs, e1, h1, h2, h3, h4⟩ := S1.mt i Rm h
  refine ⟨.ref p, e1, F1, S1, fun w F2 H2 g2 u2 => ?_⟩
  have S2 := S1.gr g2
  obtain ⟨p', vs', e1', h1', h2', h3', h4'⟩ := S2.mt i Rm h
  rw [e1] at e1'
  cases e1'
  refine ⟨p, vs', k, j, rfl, u2.here, h3', hk vs' F2 h4'.here, ?_⟩
  exact kn _ σ F2 _ rfl (S2.turn h e1 (ha vs' v F2 h4' (u1.mono g2.f))) (g1.f.trans g2.f)
/-- x = xs.pop() -/
theorem js_pop {i j : Nat} {Rm Rm' : List V → Hp → Prop} {K : PySem.W.Frag} (p : PS X st (tAsg (tBM0 K "list" rPop (tVar i)) (gName j))) (hij : i ≠ j) (h : G[i]? = some (.mt Rm))
    (ha : ∀ vs F, Up Rm vs F → ∃ v, vs[vs.length - 1]? = some v ∧ Up R v F ∧ Up Rm' vs.dropLast F) : PS X st (tS E G Rt (· = (G.set i (.mt Rm')).set j (.fz R))) := PS_imp p fun D σ H ⟨F, S, kn, kr⟩ => by
  obtain ⟨p, vs, e1, h1, h2, h3, h4⟩ := S.mt i Rm h
  obtain ⟨v, hv, u, u'⟩ := ha vs F h4
  refine ⟨.ref p, e1, .inl ⟨rfl, vs, .inl (.inl h3)⟩, p, vs, v, rfl, rfl, h3, hv, ?_⟩
  exact kn _ _ F _ rfl ((S.turn h e1 u').set_fz u) (Ex.refl F)
/-! ### parallel assignments -/
theorem js_par {i j : Nat} (p : PS X st (tPar i j (tCons (tE E G Ra) (tCons (tE E G Rb) tNil)))) : PS X st (tS E G Rt (· = (G.set i (.fz Ra)).set j (.fz Rb))) := PS_imp p fun D σ H ⟨F, S, kn, kr⟩ =>
  ⟨F, S, fun v F1 H1 g1 u1 => ⟨F1, S.gr g1, fun w F2 H2 g2 u2 => ⟨v, w, rfl, kn _ _ F2 H2 rfl (((S.gr (g1.trans g2)).set_fz (u1.mono g2.f)).set_fz u2) (g1.trans g2).f⟩⟩⟩
theorem js_parFM {i j : Nat} {Rm : List V → Hp → Prop} (hij : i ≠ j) (p : PS X st (tPar i j (tCons (tE E G Ra) (tCons (tM E G Rm) tNil)))) : PS X st (tS E G Rt (· = (G.set i (.fz Ra)).set j (.mt Rm))) := PS_imp p fun D σ H ⟨F, S, kn, kr⟩ =>
  ⟨F, S, fun v F1 H1 g1 u1 => ⟨F1, S.gr g1, fun q ws F2 H2 g2 n1 n2 n3 u2 => ⟨v, .ref q, rfl, kn _ _ F2 H2 rfl (((S.gr (g1.trans g2)).set_fz (u1.mono g2.f)).set_mt n2 ((S.gr g1).bs.back n1) n3 u2 fun k Rk hk hG hs => by
    by_cases z : k = i
    · subst z
      have hl : k < G.length := by
        have := (List.getElem?_eq_some_iff.mp hG).1
        simpa using this
      rw [List.getElem?_set_self hl] at hG
      cases hG
    · rw [List.getElem?_set_ne (Ne.symm z)] at hG hs
      exact fresh_mt (S.gr g1) n1 hG hs) (g1.trans g2).f⟩⟩⟩
theorem js_parMM {i j : Nat} {Rm Rl : List V → Hp → Prop} (hij : i ≠ j) (p : PS X st (tPar i j (tCons (tM E G Rm) (tCons (tM E G Rl) tNil)))) : PS X st (tS E G Rt (· = (G.set i (.mt Rm)).set j (.mt Rl))) := PS_imp p fun D σ H ⟨F, S, kn, kr⟩ =>
  ⟨F, S, fun q ws F1 H1 g1 n1 n2 n3 u1 => ⟨F1, S.gr g1, fun q' ws' F2 H2 g2 m1 m2 m3 u2 => ⟨.ref q, .ref q', rfl, by
    have nq : q ≠ q' := ne_of_none n3 m1
    have np : E.pp ≠ some q := fun z => by
      obtain ⟨_, x, y, h2, _⟩ := S.ok.p q z
      rw [n1] at h2
      cases h2
    have f2 : F2 q = none := by
      cases z : F2 q with
      | none => rfl
      | some o =>
        rcases g2.n q o z with w | w
        · rw [n2] at w; cases w
        · rw [n3] at w; cases w
    have S1 := (S.gr (g1.trans g2)).set_mt (i := i) f2 (S.bs.back n1) (g2.k q _ n3 np) (u1.mono g2.f) fun k Rk hk hG hs => fresh_mt S n1 hG hs
    refine kn _ _ F2 H2 rfl (S1.set_mt m2 ((S.gr g1).bs.back m1) m3 u2 fun k Rk hk hG hs => ?_) (g1.trans g2).f
    by_cases z : k = i
    · subst z
      have hl : k < σ.length := by
        have := (List.getElem?_eq_some_iff.mp hs).1
        simpa using this
      rw [List.getElem?_set_self hl] at hs
      cases hs
      exact nq rfl
    · rw [List.getElem?_set_ne (Ne.symm z)] at hG hs
      exact fresh_mt (S.gr g1) m1 hG hs⟩⟩⟩
theorem js_parMF {i j : Nat} {Rm : List V → Hp → Prop} (hij : i ≠ j) (p : PS X st (tPar i j (tCons (tM E G Rm) (tCons (tE E G Rb) tNil)))) : PS X st (tS E G Rt (· = (G.set i (.mt Rm)).set j (.fz Rb))) := PS_imp p fun D σ H ⟨F, S, kn, kr⟩ =>
  ⟨F, S, fun q ws F1 H1 g1 n1 n2 n3 u1 => ⟨F1, S.gr g1, fun w F2 H2 g2 u2 => ⟨.ref q, w, rfl, by
    have np : E.pp ≠ some q := fun z => by
      obtain ⟨_, x, y, h2, _⟩ := S.ok.p q z
      rw [n1] at h2
      cases h2
    have f2 : F2 q = none := by
      cases z : F2 q with
      | none => rfl
      | some o =>
        rcases g2.n q o z with w | w
        · rw [n2] at w; cases w
        · rw [n3] at w; cases w
    have S1 := (S.gr (g1.trans g2)).set_mt (i := i) f2 (S.bs.back n1) (g2.k q _ n3 np) (u1.mono g2.f) fun k Rk hk hG hs => fresh_mt S n1 hG hs
    exact kn _ _ F2 H2 rfl (S1.set_fz u2) (g1.trans g2).f⟩⟩⟩
theorem js_par3 {i j l : Nat} {Rc : V → Hp → Prop} (p : PS X st (tPar3 i j l (tCons (tE E G Ra) (tCons (tE E G Rb) (tCons (tE E G Rc) tNil))))) : PS X st (tS E G Rt (· = ((G.set i (.fz Ra)).set j (.fz Rb)).set l (.fz Rc))) := PS_imp p fun D σ H ⟨F, S, kn, kr⟩ =>
  ⟨F, S, fun v F1 H1 g1 u1 => ⟨F1, S.gr g1, fun w F2 H2 g2 u2 => ⟨F2, S.gr (g1.trans g2), fun z F3 H3 g3 u3 => ⟨v, w, z, rfl,
    kn _ _ F3 H3 rfl ((((S.gr ((g1.trans g2).trans g3)).set_fz (u1.mono (g2.f.trans g3.f))).set_fz (u2.mono g3.f)).set_fz u3) ((g1.trans g2).trans g3).f⟩⟩⟩⟩
/-! ### targets -/
def tG (E : En) (R : V → Hp → Prop) (idx : List Nat) (f : List Sl → List Sl) : TG := fun v σ H Q => ∃ G F, Sat E G σ F H ∧ Up R v F ∧ ∀ σ', (∀ vs, (∀ k ∈ idx, k ∈ vs) → L2.wipe σ' vs = L2.wipe σ vs) → Sat E (f G) σ' F H → Q σ' H
theorem jg_name {i : Nat} (p : PG X e (gName i)) : PG X e (tG E R [i] (fun G => G.set i (.fz R))) := PG_imp p fun v σ H Q ⟨G, F, S, u, k⟩ => k _ (fun vs h => wipe_set (h i (by simp))) (S.set_fz u)
theorem jg_tup2 {i j : Nat} {K : PySem.W.Frag} (p : PG X e (gTup K 2 (gCons (gName i) (gCons (gName j) gNil)))) : PG X e (tG E (IsTp [Ra, Rb]) [i, j] (fun G => (G.set i (.fz Ra)).set j (.fz Rb))) := PG_imp p fun v σ H Q ⟨G, F, S, u, k⟩ => by
  obtain ⟨a, vs, rfl, ha, hu⟩ := u.here
  have hu := hu.here
  cases hu with
  | cons r1 t1 =>
    cases t1 with
    | cons r2 t2 =>
      cases t2
      refine ⟨a, _, rfl, .inl (.inl (S.ok.s _ _ ha)), rfl, _, _, rfl, _, _, rfl, rfl, k _ (fun vs h => ?_) ((S.set_fz r1).set_fz r2)⟩
      rw [wipe_set (h j (by simp)), wipe_set (h i (by simp))]
theorem jg_tup3 {i j l : Nat} {Rc : V → Hp → Prop} {K : PySem.W.Frag} (p : PG X e (gTup K 3 (gCons (gName i) (gCons (gName j) (gCons (gName l) gNil))))) : PG X e (tG E (IsTp [Ra, Rb, Rc]) [i, j, l] (fun G => ((G.set i (.fz Ra)).set j (.fz Rb)).set l (.fz Rc))) := PG_imp p fun v σ H Q ⟨G, F, S, u, k⟩ => by
  obtain ⟨a, vs, rfl, ha, hu⟩ := u.here
  have hu := hu.here
  cases hu with
  | cons r1 t1 =>
    cases t1 with
    | cons r2 t2 =>
      cases t2 with
      | cons r3 t3 =>
        cases t3
        refine ⟨a, _, rfl, .inl (.inl (S.ok.s _ _ ha)), rfl, _, _, rfl, _, _, rfl, _, _, rfl, rfl, k _ (fun vs h => ?_) (((S.set_fz r1).set_fz r2).set_fz r3)⟩
        rw [wipe_set (h l (by simp)), wipe_set (h j (by simp)), wipe_set (h i (by simp))]
theorem js_asg {idx : List Nat} {f : List Sl → List Sl} (p : PS X st (tAsg (tE E G R) (tG E R idx f))) : PS X st (tS E G Rt (· = f G)) := PS_imp p fun D σ H ⟨F, S, kn, kr⟩ =>
  ⟨F, S, fun v F1 H1 g1 u1 => ⟨G, F1, S.gr g1, u1, fun σ' _ S' => kn _ σ' F1 H1 rfl S' g1.f⟩⟩
/-! ### what is walked -/
structure Src {α : Type} (pp : Option Addr) (J : It) (F : Hp) (R : α → V → Hp → Prop) (xs : List α) : Prop where
  go : ∀ (i : Nat) (F1 H1 : Hp), i < xs.length → Ex F F1 → Ex F1 H1 → J.go i H1
  stop : ∀ (F1 H1 : Hp), Ex F F1 → Ex F1 H1 → J.stop xs.length H1
  yld : ∀ (i : Nat) (x : α) (F1 H1 : Hp) (v : V) (H2 : Hp), xs[i]? = some x → Ex F F1 → Ok pp F1 H1 → J.yld i H1 v H2 → ∃ F2, Gr pp F1 H1 F2 H2 ∧ Up (R x) v F2
def tI {α : Type} (E : En) (G : List Sl) (R : α → V → Hp → Prop) (xs : List α) : TI := fun σ H Rj => ∃ F, Sat E G σ F H ∧ ∀ J F' H', Gr E.pp F H F' H' → Src E.pp J F' R xs → Rj J H'
theorem src_list {α : Type} {pp : Option Addr} {K : PySem.W.Frag} {a : Addr} {vs : List V} {F : Hp} {Rx : α → V → Hp → Prop} {xs : List α} (h : F a = some (.lst vs)) (u : LsOf Rx xs vs F) : Src pp (Itl K a) F Rx xs where
  go := fun i F1 H1 hi e1 e2 => ⟨vs, vs[i]'(by rw [← u.len]; exact hi), .inl (.inl (e2 _ _ (e1 _ _ h))), by simp⟩
  stop := fun F1 H1 e1 e2 => ⟨vs, .inl (.inl (e2 _ _ (e1 _ _ h))), by rw [u.len]; exact Nat.le_refl _⟩
  yld := fun i x F1 H1 v H2 hx e1 o y => by
    obtain ⟨rfl, y⟩ := y
    obtain ⟨w, hw, uw⟩ := u.get hx
    have q := y vs (.inl (.inl (o.s _ _ (e1 _ _ h))))
    rw [hw] at q
    cases q
    exact ⟨F1, o.gr, uw.mono e1⟩
theorem src_tup {α : Type} {pp : Option Addr} {K : PySem.W.Frag} {a : Addr} {vs : List V} {F : Hp} {Rx : α → V → Hp → Prop} {xs : List α} (h : F a = some (.tup vs)) (u : LsOf Rx xs vs F) : Src pp (Itt K a) F Rx xs where
  go := fun i F1 H1 hi e1 e2 => ⟨vs, vs[i]'(by rw [← u.len]; exact hi), .inl (.inl (e2 _ _ (e1 _ _ h))), by simp⟩
  stop := fun F1 H1 e1 e2 => ⟨vs, .inl (.inl (e2 _ _ (e1 _ _ h))), by rw [u.len]; exact Nat.le_refl _⟩
  yld := fun i x F1 H1 v H2 hx e1 o y => by
    obtain ⟨rfl, y⟩ := y
    obtain ⟨w, hw, uw⟩ := u.get hx
    have q := y vs (.inl (.inl (o.s _ _ (e1 _ _ h))))
    rw [hw] at q
    cases q
    exact ⟨F1, o.gr, uw.mono e1⟩
theorem ji_list {α : Type} {Rx : α → V → Hp → Prop} {xs : List α} {K : PySem.W.Frag} {tg : Expr} (p : PI X tg e (iList K (tE E G (IsL Rx xs)))) : PI X tg e (tI E G Rx xs) := PI_imp p fun σ H Rj ⟨F, S, k⟩ =>
  ⟨F, S, fun v F1 H1 g1 u1 => by
    obtain ⟨a, vs, rfl, ha, u⟩ := u1.here
    exact ⟨a, rfl, ⟨vs, .inl (.inl (g1.s _ _ ha))⟩, k _ F1 H1 g1 (src_list ha u.here)⟩⟩
theorem ji_tup {α : Type} {Rx : α → V → Hp → Prop} {xs : List α} {K : PySem.W.Frag} {tg : Expr} (p : PI X tg e (iTup K (tE E G (IsTs Rx xs)))) : PI X tg e (tI E G Rx xs) := PI_imp p fun σ H Rj ⟨F, S, k⟩ =>
  ⟨F, S, fun v F1 H1 g1 u1 => by
    obtain ⟨a, vs, rfl, ha, u⟩ := u1.here
    exact ⟨a, rfl, ⟨vs, .inl (.inl (g1.s _ _ ha))⟩, k _ F1 H1 g1 (src_tup ha u.here)⟩⟩
theorem PI_or {tg : Expr} {t u : TI} (p : PI X tg e t) (q : PI X tg e u) : PI X tg e (fun σ H R => t σ H R ∨ u σ H R) := ⟨fun pins s σ H R I h => h.elim (p.run pins s σ H R I) (q.run pins s σ H R I)⟩
theorem ji_seq {α : Type} {Rx : α → V → Hp → Prop} {xs : List α} {K : PySem.W.Frag} {tg : Expr} {i : Nat} (p : PI X tg e (iList K (tVar i))) (q : PI X tg e (iTup K (tVar i))) (h : G[i]? = some (.fz (IsSq Rx xs))) : PI X tg e (tI E G Rx xs) := PI_imp (PI_or p q) fun σ H Rj ⟨F, S, k⟩ => by
  obtain ⟨v, e1, u1⟩ := S.fz i _ h
  rcases u1.here with ⟨a, vs, rfl, ha, u⟩ | ⟨a, vs, rfl, ha, u⟩
  · exact .inl ⟨.ref a, e1, a, rfl, ⟨vs, .inl (.inl (S.ok.s _ _ ha))⟩, k _ F H S.refl (src_list ha u.here)⟩
  · exact .inr ⟨.ref a, e1, a, rfl, ⟨vs, .inl (.inl (S.ok.s _ _ ha))⟩, k _ F H S.refl (src_tup ha u.here)⟩
def upTo (n : Nat) : List Int := (List.range n).map fun (i : Nat) => (i : Int)
theorem upTo_get {n i : Nat} {x : Int} (h : (upTo n)[i]? = some x) : x = i ∧ i < n := by
  unfold upTo at h
  rw [List.getElem?_map] at h
  by_cases hi : i < n
  · rw [List.getElem?_range hi] at h
    exact ⟨(Option.some.inj h).symm, hi⟩
  · rw [List.getElem?_eq_none (by simpa using hi)] at h
    cases h
theorem ji_range {n : Nat} {tg : Expr} (hn : n < 2 ^ 62) (p : PI X tg e (iRng1 (tA E G [IsI n]))) : PI X tg e (tI E G IsI (upTo n)) := PI_imp p fun σ H Rj ⟨F, S, k⟩ =>
  ⟨F, S, fun vs F1 H1 g1 a => by
    cases a with
    | cons r t =>
      cases t
      refine ⟨(n : Int), by rw [r.here], by omega, by exact_mod_cast hn, k _ F1 H1 g1 ?_⟩
      have hl : (upTo n).length = n := by simp [upTo]
      refine ⟨fun i F2 H2 hi _ _ => ?_, fun F2 H2 _ _ => ?_, fun i x F2 H2 v H3 hx _ o y => ?_⟩
      · show i < (n : Int).toNat
        rw [hl] at hi
        simpa using hi
      · show (n : Int).toNat ≤ _
        rw [hl]
        simp
      · obtain ⟨rfl, rfl⟩ := y
        obtain ⟨rfl, _⟩ := upTo_get hx
        exact ⟨F2, o.gr, fun _ _ => by show V.int (0 + (i : Int)) = V.int (i : Int); rw [Int.zero_add]⟩⟩
def enumL {α : Type} (xs : List α) : List (Int × α) := xs.zipIdx.map fun p => ((p.2 : Int), p.1)
theorem enumL_get {α : Type} {xs : List α} {i : Nat} {p : Int × α} (h : (enumL xs)[i]? = some p) : p.1 = i ∧ xs[i]? = some p.2 := by
  unfold enumL at h
  rw [List.getElem?_map, List.getElem?_zipIdx] at h
  cases e : xs[i]? with
  | none => rw [e] at h; cases h
  | some x =>
    rw [e] at h
    cases h
    exact ⟨by simp, rfl⟩
theorem enumL_len {α : Type} (xs : List α) : (enumL xs).length = xs.length := by simp [enumL]
theorem ji_enum {α : Type} {Rx : α → V → Hp → Prop} {xs : List α} {K : PySem.W.Frag} {tg : Expr} (p : PI X tg e (iEnum K (tA E G [IsL Rx xs]))) : PI X tg e (tI E G (fun q => IsTp [IsI q.1, Rx q.2]) (enumL xs)) := PI_imp p fun σ H Rj ⟨F, S, k⟩ =>
  ⟨F, S, fun vs F1 H1 g1 a => by
    cases a with
    | cons r t =>
      cases t
      obtain ⟨a, ws, rfl, ha, u⟩ := r.here
      have u := u.here
      refine ⟨a, ws, rfl, .inl (.inl (g1.s _ _ ha)), k _ F1 H1 g1 ⟨fun i F2 H2 hi e1 e2 => ?_, fun F2 H2 e1 e2 => ?_, fun i q F2 H2 v H3 hq e1 o y => ?_⟩⟩
      · rw [enumL_len] at hi
        exact ⟨ws, ws[i]'(by rw [← u.len]; exact hi), .inl (.inl (e2 _ _ (e1 _ _ ha))), by simp⟩
      · exact ⟨ws, .inl (.inl (e2 _ _ (e1 _ _ ha))), by rw [enumL_len, u.len]; exact Nat.le_refl _⟩
      · obtain ⟨T, x, rfl, hT, rfl, f⟩ := y
        obtain ⟨h1, h2⟩ := enumL_get hq
        obtain ⟨w, hw, uw⟩ := u.get h2
        have z := f ws (.inl (.inl (o.s _ _ (e1 _ _ ha))))
        rw [hw] at z
        cases z
        refine ⟨_, Gr.new o hT, TupOf.up ⟨T, _, rfl, upd_same, Args.up (.cons (fun _ _ => ?_) (.cons ((uw.mono e1).mono (Ex.new (o.s.back hT))) .nil))⟩⟩
        show V.int _ = V.int q.1
        rw [h1]⟩
theorem ji_zip {α β : Type} {Rx : α → V → Hp → Prop} {Ry : β → V → Hp → Prop} {xs : List α} {ys : List β} {K : PySem.W.Frag} {tg : Expr} (p : PI X tg e (iZip K (tA E G [IsL Rx xs, IsL Ry ys]))) :
    PI X tg e (tI E G (fun q : α × β => IsTp [Rx q.1, Ry q.2]) (xs.zip ys)) := PI_imp p fun σ H Rj ⟨F, S, k⟩ =>
  ⟨F, S, fun vs F1 H1 g1 a => by
    cases a with
    | cons r t =>
      cases t with
      | cons r2 t2 =>
        cases t2
        obtain ⟨a, ws, rfl, ha, u⟩ := r.here
        obtain ⟨b, zs, rfl, hb, w⟩ := r2.here
        have u := u.here
        have w := w.here
        refine ⟨a, b, ws, zs, rfl, .inl (.inl (g1.s _ _ ha)), .inl (.inl (g1.s _ _ hb)), k _ F1 H1 g1 ⟨fun i F2 H2 hi e1 e2 => ?_, fun F2 H2 e1 e2 => ?_, fun i q F2 H2 v H3 hq e1 o y => ?_⟩⟩
        · rw [List.length_zip, u.len, w.len] at hi
          exact ⟨ws, zs, ws[i]'(by omega), zs[i]'(by omega), .inl (.inl (e2 _ _ (e1 _ _ ha))), .inl (.inl (e2 _ _ (e1 _ _ hb))), by simp, by simp⟩
        · refine ⟨ws, zs, .inl (.inl (e2 _ _ (e1 _ _ ha))), .inl (.inl (e2 _ _ (e1 _ _ hb))), ?_⟩
          rw [List.length_zip, u.len, w.len]
          omega
        · obtain ⟨T, x, z, rfl, hT, rfl, f1, f2⟩ := y
          rw [List.getElem?_zip_eq_some] at hq
          obtain ⟨v1, hv1, uv1⟩ := u.get hq.1
          obtain ⟨v2, hv2, uv2⟩ := w.get hq.2
          have z1 := f1 ws (.inl (.inl (o.s _ _ (e1 _ _ ha))))
          have z2 := f2 zs (.inl (.inl (o.s _ _ (e1 _ _ hb))))
          rw [hv1] at z1
          rw [hv2] at z2
          have q1 : v1 = x := Option.some.inj z1
          have q2 : v2 = z := Option.some.inj z2
          subst q1
          subst q2
          have hx := Ex.new (o := HO.tup [v1, v2]) (o.s.back hT)
          exact ⟨_, Gr.new o hT, TupOf.up ⟨T, _, rfl, upd_same, Args.up (.cons ((uv1.mono e1).mono hx) (.cons ((uv2.mono e1).mono hx) .nil))⟩⟩⟩
/-! ### loops -/
theorem js_for {α : Type} {Rx : α → V → Hp → Prop} {xs : List α} {tg iter : Expr} {idx : List Nat} {f : α → List Sl → List Sl} (hp : PassesOwn (model X.prog X.w) X.A X.env X.xe) (hc : X.calm = true)
    (hi : PI X tg iter (tI E G Rx xs)) (hg : ∀ x, PG X tg (tG E (Rx x) idx (f x))) (Iv : Nat → List Sl → Prop) (h0 : Iv 0 G)
    (hb : ∀ (i : Nat) (x : α) (G1 : List Sl), xs[i]? = some x → Iv i G1 → PSs X body (tS E (f x G1) Rt (Iv (i + 1)))) (hN : ∀ G1, Iv xs.length G1 → N G1)
    (hs : ∀ x, foldedSetIterable iter X.env x = pure x := by intro _; rfl) : PS X (.For tg iter body [] pos) (tS E G Rt N) := by
  have pg : PG X tg (fun v σ H Q => ∃ x, tG E (Rx x) idx (f x) v σ H Q) := ⟨fun pins s σ H v u Q I r ⟨x, h⟩ => (hg x).run pins s σ H v u Q I r h⟩
  have pb := PSs_any (X := X) (st := body) (ι := { q : Nat × α × List Sl // xs[q.1]? = some q.2.1 ∧ Iv q.1 q.2.2 }) (t := fun q => tS E (f q.1.2.1 q.1.2.2) Rt (Iv (q.1.1 + 1))) fun q => hb _ _ _ q.2.1 q.2.2
  refine PS_imp (ps_for hp hc hi pg pb hs) fun D σ H ⟨F, S, kn, kr⟩ => ?_
  refine ⟨F, S, fun J F1 H1 g1 src => ?_⟩
  refine ⟨fun i m σ2 H2 => m = xs.length - i ∧ i ≤ xs.length ∧ ∃ G2 F2, Iv i G2 ∧ Sat E G2 σ2 F2 H2 ∧ Ex F1 F2, ⟨xs.length, rfl, Nat.zero_le _, G, F1, h0, S.gr g1, Ex.refl _⟩, ?_⟩
  rintro i m σ2 H2 ⟨rfl, hi', G2, F2, iv, S2, e2⟩
  by_cases hlt : i < xs.length
  · have hx : xs[i]? = some xs[i] := List.getElem?_eq_getElem hlt
    refine .inr ⟨src.go i F2 H2 hlt e2 S2.ok.s, fun σ3 H3 => ∃ G3 F3, Iv (i + 1) G3 ∧ Sat E G3 σ3 F3 H3 ∧ Ex F1 F3, fun σ3 H3 ⟨G3, F3, iv3, S3, e3⟩ => ⟨xs.length - (i + 1), by omega, rfl, hlt, G3, F3, iv3, S3, e3⟩, fun v H3 y => ?_⟩
    obtain ⟨F3, g3, u3⟩ := src.yld i _ F2 H2 v H3 hx e2 S2.ok y
    refine ⟨xs[i], G2, F3, S2.gr g3, u3, fun σ4 _ S4 => ?_⟩
    exact ⟨⟨(i, xs[i], G2), hx, iv⟩, F3, S4, fun G5 σ5 F5 H5 n5 S5 e5 => ⟨G5, F5, n5, S5, (e2.trans g3.f).trans e5⟩, kr⟩
  · have e : i = xs.length := by omega
    subst e
    exact .inl ⟨src.stop F2 H2 e2 S2.ok.s, kn G2 σ2 F2 H2 (hN G2 iv) S2 (g1.f.trans e2)⟩
theorem js_while {c : Expr} (hp : PassesOwn (model X.prog X.w) X.A X.env X.xe) (Iv : Nat → List Sl → Prop) {m0 : Nat} (h0 : Iv m0 G)
    (hb : ∀ (m : Nat) (G1 : List Sl), Iv m G1 → ∃ b1 : Bool, PT X c (tT E G1 b1) ∧ (b1 = true → PSs X body (tS E G1 Rt (fun G2 => ∃ m', m' < m ∧ Iv m' G2))) ∧ (b1 = false → N G1)) : PS X (.While c body [] pos) (tS E G Rt N) := by
  have pt := PT_any (X := X) (e := c) (ι := { q : Nat × List Sl // Iv q.1 q.2 }) (t := fun q => tT E q.1.2 (Classical.choose (hb _ _ q.2))) fun q => (Classical.choose_spec (hb _ _ q.2)).1
  have pb := PSs_any (X := X) (st := body) (ι := { q : Nat × List Sl // ∃ h : Iv q.1 q.2, Classical.choose (hb _ _ h) = true }) (t := fun q => tS E q.1.2 Rt (fun G2 => ∃ m', m' < q.1.1 ∧ Iv m' G2)) fun q => (Classical.choose_spec (hb _ _ q.2.1)).2.1 q.2.2
  refine PS_imp (ps_while hp pt pb) fun D σ H ⟨F, S, kn, kr⟩ => ?_
  refine ⟨fun m σ2 H2 => ∃ G2 F2, Iv m G2 ∧ Sat E G2 σ2 F2 H2 ∧ Ex F F2, ⟨m0, G, F, h0, S, Ex.refl _⟩, fun m σ2 H2 ⟨G2, F2, iv, S2, e2⟩ => ?_⟩
  refine ⟨⟨(m, G2), iv⟩, F2, S2, fun F3 H3 g3 => ?_⟩
  cases hb1 : Classical.choose (hb m G2 iv) with
  | true =>
    show ∃ N : L2.St → Hp → Prop, _
    refine ⟨fun σ4 H4 => ∃ m', m' < m ∧ ∃ G4 F4, Iv m' G4 ∧ Sat E G4 σ4 F4 H4 ∧ Ex F F4, fun σ4 H4 ⟨m', hm, q⟩ => ⟨m', hm, q⟩, ?_⟩
    exact ⟨⟨(m, G2), iv, hb1⟩, F3, S2.gr g3, fun G5 σ5 F5 H5 ⟨m', hm, iv5⟩ S5 e5 => ⟨m', hm, G5, F5, iv5, S5, (e2.trans g3.f).trans e5⟩, kr⟩
  | false =>
    show D.nx σ2 H3
    exact kn G2 σ2 F3 H3 ((Classical.choose_spec (hb m G2 iv)).2.2 hb1) (S2.gr g3) (e2.trans g3.f)
/-! ### comprehensions -/
theorem lc_read {α β : Type} {Rx : α → V → Hp → Prop} {xs : List α} {Ry : β → V → Hp → Prop} {own : List (Str × Nat)} {idx : List Nat} {f : α → List Sl → List Sl} (pr : α → Bool) (g : α → β) (hidx : ∀ k ∈ idx, k ∈ own.map (·.2)) (hz : xs.length < sizeLine) {σ : L2.St} {H : Hp} {Q : VK}
    (hw : tM E G (LsOf Ry ((xs.filter pr).map g)) σ H Q) : tLc (tI E G Rx xs) (fun v σ H Q => ∃ x, tG E (Rx x) idx (f x) v σ H Q) (fun σ H Q => ∃ q : { x // x ∈ xs }, tT E (f q.1 (wipeG G (own.map (·.2)))) (pr q.1) σ H Q)
      (fun σ H Q => ∃ q : { x // x ∈ xs ∧ pr x = true }, tE E (f q.1 (wipeG G (own.map (·.2)))) (Ry (g q.1)) σ H Q) (own.map (·.2)) σ H Q := by
  obtain ⟨F, S, k⟩ := hw
  refine ⟨F, S, fun J F1 H1 g1 src D hD => ?_⟩
  have hD0 : H D = none := g1.back hD
  have hpD : E.pp ≠ some D := fun z => by
    obtain ⟨_, x, y, h2, _⟩ := S.ok.p D z
    rw [hD0] at h2
    cases h2
  refine ⟨fun i m H2 => m = xs.length - i ∧ i ≤ xs.length ∧ ∃ F2 acc, Gr E.pp F H F2 H2 ∧ Ex F1 F2 ∧ F2 D = none ∧ H2 D = some (.lst acc) ∧ LsOf Ry (((xs.take i).filter pr).map g) acc F2,
    ⟨xs.length, rfl, Nat.zero_le _, F1, [], g1.trans (Gr.raw g1.ok hD), Ex.refl _, g1.s.back hD, upd_same, by simp; exact .nil⟩, ?_⟩
  rintro i m H2 ⟨rfl, hi', F2, acc, g2, e2, n2, d2, u2⟩
  have S2 := S.gr g2
  by_cases hlt : i < xs.length
  · have hx : xs[i]? = some xs[i] := List.getElem?_eq_getElem hlt
    have hm : xs[i] ∈ xs := List.getElem_mem hlt
    have htk : xs.take (i + 1) = xs.take i ++ [xs[i]] := by rw [List.take_add_one, hx]; rfl
    refine .inr ⟨src.go i F2 H2 hlt e2 S2.ok.s, fun H3 => ∃ F3 acc', Gr E.pp F H F3 H3 ∧ Ex F1 F3 ∧ F3 D = none ∧ H3 D = some (.lst acc') ∧ LsOf Ry (((xs.take (i + 1)).filter pr).map g) acc' F3,
      fun H3 q => ⟨xs.length - (i + 1), by omega, rfl, hlt, q⟩, fun v H3 y => ?_⟩
    obtain ⟨F3, g3, u3⟩ := src.yld i _ F2 H2 v H3 hx e2 S2.ok y
    have keep : ∀ {F' H' F'' H'' : Hp}, Gr E.pp F' H' F'' H'' → F' D = none → ∀ {o : HO}, H' D = some o → F'' D = none ∧ H'' D = some o := fun {F' H' F'' H''} gg hn {o} ho => by
      refine ⟨?_, gg.k D o ho hpD⟩
      cases z : F'' D with
      | none => rfl
      | some w =>
        rcases gg.n D w z with q | q
        · rw [hn] at q; cases q
        · rw [ho] at q; cases q
    obtain ⟨n3, d3⟩ := keep g3 n2 d2
    refine ⟨xs[i], wipeG G (own.map (·.2)), F3, (S2.gr g3).wipe _, u3, fun σ4 hw S4 => ⟨?_, ⟨xs[i], hm⟩, F3, S4, fun F4 H4 g4 => ?_⟩⟩
    · rw [hw _ hidx, wipe_idem fun _ h => h]
    · obtain ⟨n4, d4⟩ := keep g4 n3 d3
      cases hb : pr xs[i] with
      | true =>
        show ∃ q : { x // x ∈ xs ∧ pr x = true }, tE E (f q.1 (wipeG G (own.map (·.2)))) (Ry (g q.1)) σ4 H4 _
        refine ⟨⟨xs[i], hm, hb⟩, F4, S4.gr g4, fun z F5 H5 g5 u5 => ?_⟩
        obtain ⟨n5, d5⟩ := keep g5 n4 d4
        have gg := ((g2.trans g3).trans g4).trans g5
        have u2' : LsOf Ry (((xs.take i).filter pr).map g) acc F5 := u2.up F5 ((g3.f.trans g4.f).trans g5.f)
        have hl : acc.length ≤ i := by
          rw [← u2.len, List.length_map]
          exact Nat.le_trans (List.length_filter_le _ _) (by rw [List.length_take]; omega)
        refine ⟨acc, d5, by omega, F5, acc ++ [z], ?_, ((e2.trans g3.f).trans g4.f).trans g5.f, n5, upd_same, ?_⟩
        · exact {
            f := gg.f
            s := fun a o q => by
              have ne : a ≠ D := fun w => by rw [w, n5] at q; cases q
              rw [upd_ne ne]
              exact gg.s a o q
            k := fun a o q hp => by
              have ne : a ≠ D := fun w => by rw [w, hD0] at q; cases q
              rw [upd_ne ne]
              exact gg.k a o q hp
            n := gg.n
            p := fun a ha => by
              obtain ⟨q1, x, y, q2, q3⟩ := gg.p a ha
              have ne : a ≠ D := fun w => hpD (by rw [← w]; exact ha)
              exact ⟨q1, x, y, by rw [upd_ne ne]; exact q2, q3⟩ }
        · rw [htk, List.filter_append, List.map_append]
          have : List.filter pr [xs[i]] = [xs[i]] := by simp [hb]
          rw [this]
          exact u2'.snoc u5
      | false =>
        show ∃ F3 acc', _
        refine ⟨F4, acc, (g2.trans g3).trans g4, (e2.trans g3.f).trans g4.f, n4, d4, ?_⟩
        rw [htk, List.filter_append, List.map_append]
        have : List.filter pr [xs[i]] = [] := by simp [hb]
        rw [this, List.map_nil, List.append_nil]
        exact u2.up F4 (g3.f.trans g4.f)
  · have e : i = xs.length := by omega
    subst e
    rw [List.take_length] at u2
    exact .inl ⟨src.stop F2 H2 e2 S2.ok.s, k D acc F2 H2 g2 hD0 n2 d2 u2.up⟩
theorem jm_lc {α β : Type} {Rx : α → V → Hp → Prop} {xs : List α} {Ry : β → V → Hp → Prop} {tg iter elt : Expr} {ifs : List Expr} {scope : Scope} {own : List (Str × Nat)} {idx : List Nat} {f : α → List Sl → List Sl} (pr : α → Bool) (g : α → β)
    (hc : X.calm = true) (hN : X.N.Nodup) (hi : PI X tg iter (tI E G Rx xs)) (ok : BlkOk X.N X.env.scope scope own) (hidx : ∀ k ∈ idx, k ∈ own.map (·.2))
    (hg : ∀ (s : Shared) (H : Hp) (C : Addr) (cl : List (Str × Addr)) (fp : List Addr) (x : α), PG (X.blk s H scope (compEnvC scope cl C X.env) fp) tg (tG E (Rx x) idx (f x)))
    (ht : ∀ (s : Shared) (H : Hp) (C : Addr) (cl : List (Str × Addr)) (fp : List Addr) (x : α), x ∈ xs → PTs (X.blk s H scope (compEnvC scope cl C X.env) fp) ifs (tT E (f x (wipeG G (own.map (·.2)))) (pr x)))
    (he : ∀ (s : Shared) (H : Hp) (C : Addr) (cl : List (Str × Addr)) (fp : List Addr) (x : α), x ∈ xs → pr x = true → PE (X.blk s H scope (compEnvC scope cl C X.env) fp) elt (tE E (f x (wipeG G (own.map (·.2)))) (Ry (g x))))
    (hz : xs.length < sizeLine) (hs : ∀ x, foldedSetIterable iter X.env x = pure x := by intro _; rfl) :
    PE X (.ListComp elt [⟨tg, iter, ifs, 0⟩] scope pos) (tM E G (LsOf Ry ((xs.filter pr).map g))) := by
  refine PE_imp (pe_lc hc hN hi ok (g := fun v σ H Q => ∃ x, tG E (Rx x) idx (f x) v σ H Q) (tt := fun σ H Q => ∃ q : { x // x ∈ xs }, tT E (f q.1 (wipeG G (own.map (·.2)))) (pr q.1) σ H Q)
    (te := fun σ H Q => ∃ q : { x // x ∈ xs ∧ pr x = true }, tE E (f q.1 (wipeG G (own.map (·.2)))) (Ry (g q.1)) σ H Q)
    (fun s H C cl fp => ⟨fun pins s' σ H' v u Q I r ⟨x, h⟩ => (hg s H C cl fp x).run pins s' σ H' v u Q I r h⟩) (fun s H C cl fp => PTs_any fun q => ht s H C cl fp q.1 q.2) (fun s H C cl fp => PE_any fun q => he s H C cl fp q.1 q.2.1 q.2.2) hs) fun σ H Q hw => lc_read pr g hidx hz hw
end
end Gw
set_option maxHeartbeats 4000000
namespace Gw
open PySem PySem.Spec PyProof.Rows L2

/-! ### promises -/
def G0 (Rs : List (V → Hp → Prop)) (n : Nat) : List Sl := Rs.map Sl.fz ++ List.replicate (n - Rs.length) Sl.un
def GP (Rs : List (V → Hp → Prop)) (n : Nat) : List Sl := Sl.pot :: G0 Rs (n - 1)
section
variable {ι : Type} (Rs : ι → List (V → Hp → Prop)) (pre : ι → Prop)
/-- arguments of the kinds Rs w, under pre w: a value of the kind Rz w -/
def Pr (Rz : ι → V → Hp → Prop) : Sp := fun vs H Q _ => ∃ (F : Hp) (w : ι), Ok none F H ∧ Args (Rs w) vs F ∧ pre w ∧ ∀ v F' H', Gr none F H F' H' → Up (Rz w) v F' → Q v H'
/-- .. a new list -/
def PrM (Rz : ι → List V → Hp → Prop) : Sp := fun vs H Q _ => ∃ (F : Hp) (w : ι), Ok none F H ∧ Args (Rs w) vs F ∧ pre w ∧ ∀ p ws F' H', Gr none F H F' H' → H p = none → F' p = none → H' p = some (.lst ws) → Up (Rz w) ws F' → Q (.ref p) H'
/-- the law's list first -/
def PrP (Rz : ι → V → Hp → Prop) : Sp := fun vs H Q _ => ∃ (F : Hp) (q : Addr) (us : List V) (w : ι), vs = .ref q :: us ∧ Ok (some q) F H ∧ Args (Rs w) us F ∧ pre w ∧ ∀ v F' H', Gr (some q) F H F' H' → Up (Rz w) v F' → Q v H'
def PrPM (Rz : ι → List V → Hp → Prop) : Sp := fun vs H Q _ => ∃ (F : Hp) (q : Addr) (us : List V) (w : ι), vs = .ref q :: us ∧ Ok (some q) F H ∧ Args (Rs w) us F ∧ pre w ∧ ∀ p ws F' H', Gr (some q) F H F' H' → H p = none → F' p = none → H' p = some (.lst ws) → Up (Rz w) ws F' → Q (.ref p) H'
end
theorem args_fz {F : Hp} : ∀ {Rs : List (V → Hp → Prop)} {vs : List V}, Args Rs vs F → ∀ (i : Nat) (R : V → Hp → Prop), (Rs.map Sl.fz)[i]? = some (Sl.fz R) → ∃ v, (vs.map some)[i]? = some (some v) ∧ Up R v F
  | [], [], _, i, R, h => by simp at h
  | R0 :: Rs, v :: vs, .cons r t, i, R, h => by
    cases i with
    | zero =>
      simp at h
      subst h
      exact ⟨v, rfl, r⟩
    | succ i =>
      simp only [List.map_cons, List.getElem?_cons_succ] at h ⊢
      exact args_fz t i R h
theorem g0_kind {Rs : List (V → Hp → Prop)} {n i : Nat} {s : Sl} (h : (G0 Rs n)[i]? = some s) : (∃ R, s = .fz R ∧ (Rs.map Sl.fz)[i]? = some (.fz R)) ∨ s = .un := by
  unfold G0 at h
  rw [List.getElem?_append] at h
  split at h
  · rw [List.getElem?_map] at h ⊢
    cases e : Rs[i]? with
    | none => rw [e] at h; cases h
    | some R =>
      rw [e] at h
      cases h
      exact .inl ⟨R, rfl, rfl⟩
  · exact .inr (by
      have := List.mem_of_getElem? h
      exact (List.mem_replicate.mp this).2)
theorem sat_start {F H : Hp} {Rs : List (V → Hp → Prop)} {vs : List V} {N : List Str} (ok : Ok none F H) (a : Args Rs vs F) : Sat ⟨F, H, none⟩ (G0 Rs N.length) (L2.start N vs) F H where
  len := by
    unfold L2.start G0
    rw [List.length_append, List.length_append, List.length_map, List.length_map, List.length_replicate, List.length_replicate, a.len]
  bs := ok.gr
  p0 := fun _ h => nomatch h
  fz := fun i R h => by
    rcases g0_kind h with ⟨R', e, h2⟩ | e
    · cases e
      obtain ⟨v, h3, u⟩ := args_fz a i R h2
      refine ⟨v, ?_, u⟩
      unfold L2.start
      have hl := (List.getElem?_eq_some_iff.mp h3).1
      rw [List.getElem?_append_left hl]
      exact h3
    · cases e
  mt := fun i R h => by
    rcases g0_kind h with ⟨R', e, _⟩ | e <;> cases e
  ap := fun i j R S p _ h _ => by
    rcases g0_kind h with ⟨R', e, _⟩ | e <;> cases e
  pt := fun i h => by
    rcases g0_kind h with ⟨R', e, _⟩ | e <;> cases e
theorem sat_startP {F H : Hp} {q : Addr} {Rs : List (V → Hp → Prop)} {us : List V} {N : List Str} (ok : Ok (some q) F H) (a : Args Rs us F) (hn : 0 < N.length) : Sat ⟨F, H, some q⟩ (GP Rs N.length) (L2.start N (.ref q :: us)) F H := by
  have e : L2.start N (.ref q :: us) = some (.ref q) :: (us.map some ++ List.replicate (N.length - 1 - us.length) none) := by
    unfold L2.start
    rw [List.map_cons, List.cons_append, List.length_cons, show N.length - (us.length + 1) = N.length - 1 - us.length by omega]
  have k : ∀ {i : Nat} {s : Sl}, (GP Rs N.length)[i]? = some s → (i = 0 ∧ s = .pot) ∨ ∃ j, i = j + 1 ∧ (G0 Rs (N.length - 1))[j]? = some s := fun {i s} h => by
    cases i with
    | zero => exact .inl ⟨rfl, by unfold GP at h; simpa using h.symm⟩
    | succ j => exact .inr ⟨j, rfl, by unfold GP at h; simpa using h⟩
  refine ⟨?_, ok.gr, fun z hz => ?_, fun i R h => ?_, fun i R h => ?_, fun i j R S p _ h _ _ _ => ?_, fun i h => ?_⟩
  · rw [e]
    unfold GP G0
    simp [a.len]
  · cases hz
    obtain ⟨_, x, y, h2, _⟩ := ok.p q rfl
    exact ⟨_, h2⟩
  · rcases k h with ⟨_, e2⟩ | ⟨j, rfl, h2⟩
    · cases e2
    · rcases g0_kind h2 with ⟨R', e2, h3⟩ | e2
      · cases e2
        obtain ⟨v, h4, u⟩ := args_fz a j R h3
        refine ⟨v, ?_, u⟩
        rw [e, List.getElem?_cons_succ, List.getElem?_append_left (List.getElem?_eq_some_iff.mp h4).1]
        exact h4
      · cases e2
  · rcases k h with ⟨_, e2⟩ | ⟨j, rfl, h2⟩
    · cases e2
    · rcases g0_kind h2 with ⟨R', e2, h3⟩ | e2 <;> cases e2
  · rcases k h with ⟨_, e2⟩ | ⟨j, rfl, h2⟩
    · cases e2
    · rcases g0_kind h2 with ⟨R', e2, h3⟩ | e2 <;> cases e2
  · rcases k h with ⟨rfl, _⟩ | ⟨j, rfl, h2⟩
    · exact ⟨q, by rw [e]; rfl, rfl⟩
    · rcases g0_kind h2 with ⟨R', e2, h3⟩ | e2 <;> cases e2
section
variable {P : Program} {w : World} {K : PySem.W.Frag} {mg : Str → Option Value} {base : Heap} {x qual : Str} {params : Arguments} {body : List Stmt} {scope : Scope} {dvs : List V} {kws : List (Str × V)} {f : Addr} {fd : FuncData} {N ps : List Str} {k : Nat} {ι : Type} {Rs : ι → List (V → Hp → Prop)} {pre : ι → Prop}
/-- a def keeps its promise; N0: how its end is reached without a return -/
theorem fn_pr {Rz : ι → V → Hp → Prop} (Fd : FunD K x qual params body scope dvs kws f fd) (S : FnScope N ps scope) (hl : ∀ u, (Rs u).length = ps.length) (N0 : List Sl → Prop) (hN : ∀ G u, N0 G → ∀ F, Rz u .non F)
    (hb : ∀ (X : Cx) (u : ι) (E : En), (∃ cdv A outer s H E', X = cxOf CX0 P w K mg base N qual scope f cdv A outer s H E' ∧ Room k X.A) → pre u → E.pp = none → PSs X body (tS E (G0 (Rs u) N.length) (Rn (Rz u)) N0)) : FnOk P w K mg base CX0 (k + 1) f fd ps (Pr Rs pre Rz) := by
  refine Fd.ok S (fun vs H Q E ⟨F, u, ok, a, _, _⟩ => by rw [← a.len, hl]) (fun cdv A outer s H vs Q E hr ⟨F, u, ok, a, hp, kq⟩ => ?_)
  refine ⟨tS ⟨F, H, none⟩ (G0 (Rs u) N.length) (Rn (Rz u)) N0, hb _ u ⟨F, H, none⟩ ⟨cdv, A, outer, s, H, E, rfl, hr⟩ hp rfl, F, sat_start ok a, fun G' σ' F' H' n S' _ => ?_, fun v F' H' b r => kq v F' H' b r⟩
  exact kq .non F' H' S'.bs fun F2 _ => hN G' u n F2
theorem fn_prM {Rz : ι → List V → Hp → Prop} (Fd : FunD K x qual params body scope dvs kws f fd) (S : FnScope N ps scope) (hl : ∀ u, (Rs u).length = ps.length)
    (hb : ∀ (X : Cx) (u : ι) (E : En), (∃ cdv A outer s H E', X = cxOf CX0 P w K mg base N qual scope f cdv A outer s H E' ∧ Room k X.A) → pre u → E.pp = none → PSs X body (tS E (G0 (Rs u) N.length) (RnM E (Rz u)) (fun _ => False))) : FnOk P w K mg base CX0 (k + 1) f fd ps (PrM Rs pre Rz) := by
  refine Fd.ok S (fun vs H Q E ⟨F, u, ok, a, _, _⟩ => by rw [← a.len, hl]) (fun cdv A outer s H vs Q E hr ⟨F, u, ok, a, hp, kq⟩ => ?_)
  refine ⟨tS ⟨F, H, none⟩ (G0 (Rs u) N.length) (RnM ⟨F, H, none⟩ (Rz u)) (fun _ => False), hb _ u ⟨F, H, none⟩ ⟨cdv, A, outer, s, H, E, rfl, hr⟩ hp rfl, F, sat_start ok a, fun G' σ' F' H' n S' _ => n.elim, fun v F' H' b ⟨p, vs', e1, e2, e3, e4, u⟩ => ?_⟩
  subst e1
  exact kq p vs' F' H' b e2 e3 e4 u
theorem fn_prP {Rz : ι → V → Hp → Prop} (Fd : FunD K x qual params body scope dvs kws f fd) (S : FnScope N ps scope) (hl : ∀ u, (Rs u).length + 1 = ps.length) (hn : 0 < N.length)
    (hb : ∀ (X : Cx) (u : ι) (E : En), (∃ cdv A outer s H E', X = cxOf CX0 P w K mg base N qual scope f cdv A outer s H E' ∧ Room k X.A) → pre u → PSs X body (tS E (GP (Rs u) N.length) (Rn (Rz u)) (fun _ => False))) : FnOk P w K mg base CX0 (k + 1) f fd ps (PrP Rs pre Rz) := by
  refine Fd.ok S (fun vs H Q E ⟨F, q, us, u, e, ok, a, _, _⟩ => by rw [e, List.length_cons, ← a.len, hl]) (fun cdv A outer s H vs Q E hr ⟨F, q, us, u, e, ok, a, hp, kq⟩ => ?_)
  subst e
  exact ⟨tS ⟨F, H, some q⟩ (GP (Rs u) N.length) (Rn (Rz u)) (fun _ => False), hb _ u ⟨F, H, some q⟩ ⟨cdv, A, outer, s, H, E, rfl, hr⟩ hp, F, sat_startP ok a hn, fun G' σ' F' H' n S' _ => n.elim, fun v F' H' b r => kq v F' H' b r⟩
theorem fn_prPM {Rz : ι → List V → Hp → Prop} (Fd : FunD K x qual params body scope dvs kws f fd) (S : FnScope N ps scope) (hl : ∀ u, (Rs u).length + 1 = ps.length) (hn : 0 < N.length)
    (hb : ∀ (X : Cx) (u : ι) (E : En), (∃ cdv A outer s H E', X = cxOf CX0 P w K mg base N qual scope f cdv A outer s H E' ∧ Room k X.A) → pre u → PSs X body (tS E (GP (Rs u) N.length) (RnM E (Rz u)) (fun _ => False))) : FnOk P w K mg base CX0 (k + 1) f fd ps (PrPM Rs pre Rz) := by
  refine Fd.ok S (fun vs H Q E ⟨F, q, us, u, e, ok, a, _, _⟩ => by rw [e, List.length_cons, ← a.len, hl]) (fun cdv A outer s H vs Q E hr ⟨F, q, us, u, e, ok, a, hp, kq⟩ => ?_)
  subst e
  refine ⟨tS ⟨F, H, some q⟩ (GP (Rs u) N.length) (RnM ⟨F, H, some q⟩ (Rz u)) (fun _ => False), hb _ u ⟨F, H, some q⟩ ⟨cdv, A, outer, s, H, E, rfl, hr⟩ hp, F, sat_startP ok a hn, fun G' σ' F' H' n S' _ => n.elim, fun v F' H' b ⟨p, vs', e1, e2, e3, e4, u⟩ => ?_⟩
  subst e1
  exact kq p vs' F' H' b e2 e3 e4 u
end
section
variable {X : Cx} {E : En} {G : List Sl} {e a b c : Expr} {R R' Ra Rb Rz : V → Hp → Prop} {pos : Pos} {ι : Type} {Rs : ι → List (V → Hp → Prop)} {pre : ι → Prop} {E' : XK} {pp : Option Addr}
theorem rc_pr {Rf : ι → V → Hp → Prop} {dvs : List V} {Ss : List (V → Hp → Prop)} (w : ι) (hs : ∀ vs F, Args Ss vs F → Args (Rs w) (vs ++ dvs) F) (hp : pre w) : RC pp (fun vs H Q => Pr Rs pre Rf (vs ++ dvs) H Q E') Ss (Rf w) := fun vs F H Q ok a k =>
  ⟨F, w, ok.none, hs vs F a, hp, fun v F' H' g u => k v F' H' (g.lift ok) u⟩
theorem rcm_pr {Rf : ι → List V → Hp → Prop} {dvs : List V} {Ss : List (V → Hp → Prop)} (w : ι) (hs : ∀ vs F, Args Ss vs F → Args (Rs w) (vs ++ dvs) F) (hp : pre w) : RCM pp (fun vs H Q => PrM Rs pre Rf (vs ++ dvs) H Q E') Ss (Rf w) := fun vs F H Q ok a k =>
  ⟨F, w, ok.none, hs vs F a, hp, fun p ws F' H' g n1 n2 n3 u => k p ws F' H' (g.lift ok) n1 n2 n3 u⟩
/-- f(..), all arguments written -/
theorem je_f {Rf : ι → V → Hp → Prop} (w : ι) (p : PE X e (tCall (Pr Rs pre Rf) [] E' (tA E G (Rs w)))) (hp : pre w) : PE X e (tE E G (Rf w)) :=
  je_cb (r := fun vs H Q => Pr Rs pre Rf (vs ++ []) H Q E') p (rc_pr w (fun vs F h => by rw [List.append_nil]; exact h) hp)
theorem jm_f {Rf : ι → List V → Hp → Prop} (w : ι) (p : PE X e (tCall (PrM Rs pre Rf) [] E' (tA E G (Rs w)))) (hp : pre w) : PE X e (tM E G (Rf w)) :=
  jm_cb (r := fun vs H Q => PrM Rs pre Rf (vs ++ []) H Q E') p (rcm_pr w (fun vs F h => by rw [List.append_nil]; exact h) hp)
/-- the law's list as the first argument -/
def tAP (E : En) (G : List Sl) (Rs : List (V → Hp → Prop)) : TA := fun σ H Q => ∃ F q, Sat E G σ F H ∧ E.pp = some q ∧ ∀ vs F' H', Gr E.pp F H F' H' → Args Rs vs F' → Q (.ref q :: vs) H'
theorem ja_pot {i : Nat} {es : List Expr} {Rl : List (V → Hp → Prop)} (p : PE X e (tVar i)) (h : G[i]? = some .pot) (hr : PA X es (tA E G Rl)) (hs : starEach (e :: es) X.env = (false, eval e X.env) :: starEach es X.env := by rfl) : PA X (e :: es) (tAP E G Rl) :=
  PA_imp (pa_cons p hr hs) fun σ H Q ⟨F, q, S, hq, k⟩ => by
    obtain ⟨q', e1, e2⟩ := S.pt i h
    rw [hq] at e2
    cases e2
    exact ⟨.ref q, e1, F, S, fun vs F' H' g a => k vs F' H' g a⟩
theorem je_fP {Rf : ι → V → Hp → Prop} (w : ι) (hpot : ∃ i : Nat, G[i]? = some .pot) (p : PE X e (tCall (PrP Rs pre Rf) [] E' (tAP E G (Rs w)))) (hp : pre w) : PE X e (tE E G (Rf w)) := PE_imp p fun σ H Q ⟨F, S, k⟩ => by
  obtain ⟨i, hi⟩ := hpot
  obtain ⟨q, _, hq⟩ := S.pt i hi
  refine ⟨F, q, S, hq, fun vs F1 H1 g1 a => ⟨F1, q, vs, w, by rw [List.append_nil], by rw [← hq]; exact g1.ok, a, hp, fun v F2 H2 g2 u => k v F2 H2 (g1.trans (by rw [hq]; exact g2)) u⟩⟩
theorem jm_fP {Rf : ι → List V → Hp → Prop} (w : ι) (hpot : ∃ i : Nat, G[i]? = some .pot) (p : PE X e (tCall (PrPM Rs pre Rf) [] E' (tAP E G (Rs w)))) (hp : pre w) : PE X e (tM E G (Rf w)) := PE_imp p fun σ H Q ⟨F, S, k⟩ => by
  obtain ⟨i, hi⟩ := hpot
  obtain ⟨q, _, hq⟩ := S.pt i hi
  refine ⟨F, q, S, hq, fun vs F1 H1 g1 a => ⟨F1, q, vs, w, by rw [List.append_nil], by rw [← hq]; exact g1.ok, a, hp, fun p ws F2 H2 g2 n1 n2 n3 u => k p ws F2 H2 (g1.trans (by rw [hq]; exact g2)) (g1.back n1) n2 n3 u⟩⟩
/-- a kind with an open part, at a slot -/
def Som {α : Type} (P : α → Prop) (R : α → V → Hp → Prop) (v : V) (F : Hp) : Prop := ∃ x, P x ∧ R x v F
theorem js_open {α : Type} {P : α → Prop} {R : α → V → Hp → Prop} {i : Nat} {st : List Stmt} {Rt : V → Hp → Hp → Prop} {N : List Sl → Prop} (h : G[i]? = some (.fz (Som P R))) (hm : ∀ x v F F', R x v F → Ex F F' → R x v F')
    (k : ∀ x, P x → PSs X st (tS E (G.set i (.fz (R x))) Rt N)) : PSs X st (tS E G Rt N) := PSs_imp (PSs_any (ι := { x // P x }) (t := fun q => tS E (G.set i (.fz (R q.1))) Rt N) fun q => k q.1 q.2) fun D σ H ⟨F, S, kn, kr⟩ => by
  obtain ⟨v, e1, u⟩ := S.fz i _ h
  obtain ⟨x, px, r⟩ := u.here
  have S2 := S.set_fz (i := i) (R := R x) (v := v) fun F' e => hm x v F F' r e
  have e2 : σ.set i (some v) = σ := by
    apply List.ext_getElem?
    intro j
    by_cases hj : j = i
    · subst hj
      rw [List.getElem?_set_self (List.getElem?_eq_some_iff.mp e1).1, e1]
    · rw [List.getElem?_set_ne (Ne.symm hj)]
  rw [e2] at S2
  exact ⟨⟨x, px⟩, F, S2, kn, kr⟩
theorem js_weak {G' : List Sl} {st : List Stmt} {Rt : V → Hp → Hp → Prop} {N : List Sl → Prop} (h : Paired Le G G') (k : PSs X st (tS E G' Rt N)) : PSs X st (tS E G Rt N) := PSs_imp k fun D σ H ⟨F, S, kn, kr⟩ => ⟨F, S.weakL h, kn, kr⟩

/-! ### ints -/
theorem rop_ii {g : Int → Int → V} {i j : Int} (hz : ∀ F, Rz (g i j) F) : ROp pp (rI0 g) (IsI i) (IsI j) Rz := fun x y F H Q ok u1 u2 k => ⟨i, j, u1.here, u2.here, k _ F H ok.gr fun F' _ => hz F'⟩
theorem rop_add {i j : Int} : ROp pp (rI0 fun i j => .int (i + j)) (IsI i) (IsI j) (IsI (i + j)) := rop_ii fun _ => rfl
theorem rop_sub {i j : Int} : ROp pp (rI0 fun i j => .int (i - j)) (IsI i) (IsI j) (IsI (i - j)) := rop_ii fun _ => rfl
theorem rop_lt {i j : Int} : ROp pp (rI0 fun i j => .bl (decide (i < j))) (IsI i) (IsI j) (IsB (decide (i < j))) := rop_ii fun _ => rfl
theorem rop_le {i j : Int} : ROp pp (rI0 fun i j => .bl (decide (i ≤ j))) (IsI i) (IsI j) (IsB (decide (i ≤ j))) := rop_ii fun _ => rfl
theorem rop_gt {i j : Int} : ROp pp (rI0 fun i j => .bl (decide (j < i))) (IsI i) (IsI j) (IsB (decide (j < i))) := rop_ii fun _ => rfl
theorem rop_ge {i j : Int} : ROp pp (rI0 fun i j => .bl (decide (j ≤ i))) (IsI i) (IsI j) (IsB (decide (j ≤ i))) := rop_ii fun _ => rfl
theorem rop_C {C : Int → Int → Prop} {g : Int → Int → V} {i j : Int} (hc : C i j) (hz : ∀ F, Rz (g i j) F) : ROp pp (rI C g) (IsI i) (IsI j) Rz := fun x y F H Q ok u1 u2 k => ⟨i, j, u1.here, u2.here, hc, k _ F H ok.gr fun F' _ => hz F'⟩
theorem rop_mod {i j : Int} (h : 0 < j) : ROp pp (rI (fun _ j => 0 < j) fun i j => .int (i % j)) (IsI i) (IsI j) (IsI (i % j)) := rop_C h fun _ => rfl
theorem rop_mulW {i j : Int} (h : CMulW i j) : ROp pp (rI CMulW fun i j => .int (i * j)) (IsI i) (IsI j) (IsI (i * j)) := rop_C h fun _ => rfl
theorem rop_fdiv {i j : Int} (h : CDiv i j) : ROp pp (rI CDiv fun i j => .int (i / j)) (IsI i) (IsI j) (IsI (i / j)) := rop_C h fun _ => rfl
theorem rop_eqI {i j : Int} : ROp pp rEq (IsI i) (IsI j) (IsB (decide (i = j))) := fun x y F H Q ok u1 u2 k => by
  rw [u1.here, u2.here]
  refine ⟨rfl, k _ F H ok.gr fun F' _ => ?_⟩
  show V.bl _ = V.bl _
  congr 1
  simp
theorem rop_neI {i j : Int} : ROp pp rNe (IsI i) (IsI j) (IsB (!decide (i = j))) := fun x y F H Q ok u1 u2 k => by
  rw [u1.here, u2.here]
  refine ⟨rfl, k _ F H ok.gr fun F' _ => ?_⟩
  show V.bl _ = V.bl _
  congr 1
  simp
/-- // by any divisor but 0 below 2 ^ 9000 -/
def CFdW (_ j : Int) : Prop := j ≠ 0 ∧ j.natAbs.log2 < 9000
theorem op_fdW : OpR X (binaryOp .FloorDiv) (rI CFdW fun i j => .int (i.fdiv j)) := opI fun _ _ _ _ _ _ _ hc q => floordiv_int hc.1 q (.inl (PyProof.noPylong_of_log2 hc.2))
theorem rop_fdW {i j : Int} (h : CFdW i j) : ROp pp (rI CFdW fun i j => .int (i.fdiv j)) (IsI i) (IsI j) (IsI (i.fdiv j)) := rop_C h fun _ => rfl
def CPow' (i j : Int) : Prop := CPow i j
/-- x is None of an object, of None -/
theorem rop_isN {b : Bool} (h : ∀ v F, Ra v F → decide (v = .non) = b) : ROp pp (fun x y H Q => y = .non ∧ Q (.bl (decide (x = .non))) H) Ra IsN (IsB b) := fun x y F H Q ok u1 u2 k => ⟨u2.here, k _ F H ok.gr fun F' _ => by rw [h x F u1.here]; rfl⟩
theorem rop_notN {b : Bool} (h : ∀ v F, Ra v F → (!decide (v = .non)) = b) : ROp pp (fun x y H Q => y = .non ∧ Q (.bl (!decide (x = .non))) H) Ra IsN (IsB b) := fun x y F H Q ok u1 u2 k => ⟨u2.here, k _ F H ok.gr fun F' _ => by rw [h x F u1.here]; rfl⟩
theorem ls_ints {F : Hp} : ∀ {xs : List Int} {vs : List V}, LsOf IsI xs vs F → vs = xs.map V.int
  | [], [], _ => rfl
  | x :: xs, v :: vs, .cons r t => by
    have e : v = .int x := r.here
    rw [e, ls_ints t]
    rfl
theorem ls_bools {F : Hp} : ∀ {xs : List Bool} {vs : List V}, LsOf IsB xs vs F → vs = xs.map V.bl
  | [], [], _ => rfl
  | x :: xs, v :: vs, .cons r t => by
    have e : v = .bl x := r.here
    rw [e, ls_bools t]
    rfl
theorem inV_ints (i : Int) (xs : List Int) : inV (.int i) (xs.map V.int) = decide (i ∈ xs) := by
  unfold inV
  rw [List.any_map]
  induction xs with
  | nil => simp
  | cons x xs ih =>
    rw [List.any_cons, ih]
    show ((x == i) || decide (i ∈ xs)) = decide (i ∈ x :: xs)
    by_cases h : i = x
    · subst h; simp
    · have h2 : (x == i) = false := by simpa using (Ne.symm h)
      rw [h2]
      simp [h]
theorem rop_in {K : PySem.W.Frag} {i : Int} {xs : List Int} : ROp pp (rIn K false) (IsI i) (IsL IsI xs) (IsB (decide (i ∈ xs))) := fun x y F H Q ok u1 u2 k => by
  obtain ⟨a, vs, rfl, ha, u⟩ := u2.here
  have e := ls_ints u.here
  subst e
  rw [u1.here]
  refine ⟨a, _, rfl, .inl (.inl (.inl (ok.s _ _ ha))), rfl, ?_, k _ F H ok.gr fun F' _ => ?_⟩
  · rw [List.all_map]; simp [flatV]
  · show V.bl (if false = true then _ else inV (.int i) (xs.map V.int)) = _
    rw [if_neg Bool.false_ne_true, inV_ints]
theorem rop_notIn {K : PySem.W.Frag} {i : Int} {xs : List Int} : ROp pp (rIn K true) (IsI i) (IsL IsI xs) (IsB (!decide (i ∈ xs))) := fun x y F H Q ok u1 u2 k => by
  obtain ⟨a, vs, rfl, ha, u⟩ := u2.here
  have e := ls_ints u.here
  subst e
  rw [u1.here]
  refine ⟨a, _, rfl, .inl (.inl (.inl (ok.s _ _ ha))), rfl, ?_, k _ F H ok.gr fun F' _ => ?_⟩
  · rw [List.all_map]; simp [flatV]
  · show V.bl (if true = true then !inV (.int i) (xs.map V.int) else _) = _
    rw [if_pos rfl, inV_ints]
/-- xs != [] of ints -/
theorem dp_ints {K : PySem.W.Frag} {H : Hp} : ∀ xs : List Int, DpAll K H (xs.map V.int) (xs.map PyData.int)
  | [] => .nil
  | x :: xs => .cons (.int x) (dp_ints xs)
theorem shaped_ints (xs : List Int) : SeqAt.shaped (.list (xs.map PyData.int)) = true := by
  have h1 : ∀ xs : List Int, PyData.canLayAll0 (xs.map PyData.int) = true := fun xs => by
    induction xs with
    | nil => rfl
    | cons x xs ih =>
      show (PyData.canLay0 (.int x) && PyData.canLayAll0 (xs.map PyData.int)) = true
      rw [ih] <;> rfl
  have h2 : ∀ xs : List Int, PyData.depthAll (xs.map PyData.int) ≤ 1 := fun xs => by
    induction xs with
    | nil => exact Nat.zero_le _
    | cons x xs ih =>
      have e : PyData.depthAll (PyData.int x :: xs.map PyData.int) = max (PyData.depth (.int x)) (PyData.depthAll (xs.map PyData.int)) := by
        first | rfl | simp [PyData.depthAll]
      have e2 : PyData.depth (.int x) ≤ 1 := by first | decide | simp [PyData.depth]
      show PyData.depthAll (PyData.int x :: xs.map PyData.int) ≤ 1
      omega
  have e : PyData.depth (.list (xs.map PyData.int)) ≤ 64 := by
    have h := h2 xs
    simp only [PyData.depth]
    omega
  show (PyData.canLayAll0 (xs.map PyData.int) && decide (PyData.depth (.list (xs.map PyData.int)) ≤ 64)) = true
  rw [h1 xs, decide_eq_true e] <;> rfl
theorem rop_neNil {K : PySem.W.Frag} {xs : List Int} : ROp pp (rNeD K) (IsL IsI xs) (LstOf (LsOf IsI [])) (IsB (!xs.isEmpty)) := fun x y F H Q ok u1 u2 k => by
  obtain ⟨a, vs, rfl, ha, u⟩ := u1.here
  have e := ls_ints u.here
  subst e
  obtain ⟨b, ws, rfl, hb, w⟩ := u2.here
  have e2 := ls_ints w.here
  subst e2
  refine ⟨_, _, .lst (.inl (.inl (ok.s _ _ ha))) (dp_ints xs), .lst (.inl (.inl (ok.s _ _ hb))) (dp_ints []), shaped_ints xs, rfl, k _ F H ok.gr fun F' _ => ?_⟩
  show V.bl _ = V.bl _
  cases xs <;> simp [PyData.eqv, PyData.eqvAll]
/-! ### subscripts, slices, lists of lists -/
theorem rop_ixL {K : PySem.W.Frag} {α : Type} {Rx : α → V → Hp → Prop} {xs : List α} {j : Nat} {x : α} {i : Int} (h : xs[j]? = some x) (hi : i = (j : Int) := by rfl) : ROp pp (rIxL K) (IsL Rx xs) (IsI i) (Rx x) := fun y z F H Q ok u1 u2 k => by
  obtain ⟨a, vs, rfl, ha, u⟩ := u1.here
  obtain ⟨v, hv, uv⟩ := u.here.get h
  rw [u2.here]
  exact ⟨a, vs, i, v, rfl, rfl, .inl (.inl (ok.s _ _ ha)), by rw [hi]; exact atI_nat hv, k v F H ok.gr uv⟩
theorem rop_ixT {K : PySem.W.Frag} {Rl : List (V → Hp → Prop)} {j : Nat} {Rx : V → Hp → Prop} {i : Int} (h : Rl[j]? = some Rx) (hi : i = (j : Int) := by rfl) : ROp pp (rIxT K) (IsTp Rl) (IsI i) Rx := fun y z F H Q ok u1 u2 k => by
  obtain ⟨a, vs, rfl, ha, u⟩ := u1.here
  obtain ⟨v, hv, uv⟩ := Args.get u.here h
  rw [u2.here]
  exact ⟨a, vs, i, v, rfl, rfl, .inl (.inl (ok.s _ _ ha)), by rw [hi]; exact atI_nat hv, k v F H ok.gr uv⟩
theorem rop_cat {α : Type} {Rx : α → V → Hp → Prop} {xs ys : List α} (hz : xs.length + ys.length ≤ 100000) : ROpM pp rCat (IsL Rx xs) (IsL Rx ys) (LsOf Rx (xs ++ ys)) := fun y z F H Q ok u1 u2 k => by
  obtain ⟨a, vs, rfl, ha, u⟩ := u1.here
  obtain ⟨b, ws, rfl, hb, w⟩ := u2.here
  have h1 := u.here.len
  have h2 := w.here.len
  refine ⟨a, b, vs, ws, rfl, rfl, ok.s _ _ ha, ok.s _ _ hb, ?_, fun p hp => k p (vs ++ ws) F _ (Gr.raw ok hp) hp (ok.s.back hp) upd_same ?_⟩
  · have : (100000 : Nat) ≤ sizeLine := by decide
    omega
  · exact LsOf.up (paired_app u.here w.here)
theorem paired_rep {α β : Type} {P : α → β → Prop} {xs : List α} {ys : List β} (p : Paired P xs ys) : ∀ n, Paired P (List.replicate n xs).flatten (List.replicate n ys).flatten
  | 0 => by simp; exact .nil
  | n + 1 => by
    rw [List.replicate_succ, List.replicate_succ, List.flatten_cons, List.flatten_cons]
    exact paired_app p (paired_rep p n)
theorem rop_rep {α : Type} {Rx : α → V → Hp → Prop} {xs : List α} {n : Nat} (hz : xs.length * n ≤ 100000) (hn : n ≤ 100000) : ROpM pp rRep (IsL Rx xs) (IsI (n : Int)) (LsOf Rx (List.replicate n xs).flatten) := fun y z F H Q ok u1 u2 k => by
  obtain ⟨a, vs, rfl, ha, u⟩ := u1.here
  have h1 := u.here.len
  refine ⟨a, n, vs, rfl, u2.here, ok.s _ _ ha, by omega, by omega, ?_, fun p hp => k p _ F _ (Gr.raw ok hp) hp (ok.s.back hp) upd_same ?_⟩
  · have : (100000 : Nat) ≤ sizeLine := by decide
    rw [Int.toNat_natCast, ← h1]
    omega
  · rw [Int.toNat_natCast]
    exact LsOf.up (paired_rep u.here n)
theorem jo_none : PO X none (tO E G none) := PO_imp po_none fun σ H Q ⟨F, S, k⟩ => k F H S.refl
theorem jo_some {i : Int} (p : PE X e (tE E G (IsI i))) : PO X (some e) (tO E G (some i)) := PO_imp (po_some p) fun σ H Q ⟨F, S, k⟩ => ⟨F, S, fun v F1 H1 g u => ⟨i, u.here, k F1 H1 g⟩⟩
theorem jm_slice {K : PySem.W.Frag} {α : Type} {Rx : α → V → Hp → Prop} {xs ys : List α} {lo hi : Option Int} (p : PE X e (tSl (rSlL K) (tE E G (IsL Rx xs)) (tO E G lo) (tO E G hi)))
    (h : ys = (xs.drop (HT.sIx xs.length 0 lo)).take (HT.sIx xs.length xs.length hi - HT.sIx xs.length 0 lo)) : PE X e (tM E G (LsOf Rx ys)) := PE_imp p fun σ H Q ⟨F, S, k⟩ =>
  ⟨F, S, fun x F1 H1 g1 u1 => ⟨F1, S.gr g1, fun F2 H2 g2 => ⟨F2, S.gr (g1.trans g2), fun F3 H3 g3 => by
    obtain ⟨a, vs, rfl, ha, u⟩ := u1.here
    have u2 := u.here
    refine ⟨a, vs, rfl, .inl (.inl (g3.s _ _ (g3.f _ _ (g2.f _ _ ha)))), fun p hp => ?_⟩
    have g := (g1.trans g2).trans g3
    refine k p (cutV vs lo hi) F3 _ (g.trans (Gr.raw g.ok hp)) (g.back hp) (g.s.back hp) upd_same ?_
    subst h
    unfold cutV
    rw [← u2.len]
    exact (LsOf.up (paired_take (paired_drop u2 _) _)).mono (g2.f.trans g3.f)⟩⟩⟩
theorem cut_from (n k : Nat) {α : Type} (xs : List α) (hl : xs.length = n) : (xs.drop (HT.sIx n 0 (some (k : Int)))).take (HT.sIx n n none - HT.sIx n 0 (some (k : Int))) = xs.drop k := by
  rw [show HT.sIx n 0 (some (k : Int)) = min k n from HT.sIx_nat n 0 k, show HT.sIx n n none = n from rfl]
  rw [List.take_of_length_le (by rw [List.length_drop, hl]; exact Nat.le_refl _)]
  by_cases h : k ≤ n
  · rw [Nat.min_eq_left h]
  · rw [Nat.min_eq_right (by omega), List.drop_of_length_le (by omega), List.drop_of_length_le (by omega)]
theorem cut_to (n k : Nat) {α : Type} (xs : List α) (hl : xs.length = n) : (xs.drop (HT.sIx n 0 none)).take (HT.sIx n n (some (k : Int)) - HT.sIx n 0 none) = xs.take k := by
  rw [show HT.sIx n n (some (k : Int)) = min k n from HT.sIx_nat n n k, show HT.sIx n 0 none = 0 from rfl]
  rw [List.drop_zero, Nat.sub_zero]
  by_cases h : k ≤ n
  · rw [Nat.min_eq_left h]
  · rw [Nat.min_eq_right (by omega), List.take_of_length_le (by omega), List.take_of_length_le (by omega)]
/-! ### built-ins -/
theorem rc_len {α : Type} {Rx : α → V → Hp → Prop} {xs : List α} {K : PySem.W.Frag} : RC pp (fun us H Q => ∃ x n, us = [x] ∧ LenV K x H n ∧ Q (.int n) H) [IsL Rx xs] (IsI (xs.length : Int)) := fun vs F H Q ok a k => by
  cases a with
  | cons r t =>
    cases t
    obtain ⟨p, ws, rfl, ha, u⟩ := r.here
    exact ⟨_, ws.length, rfl, .inl ⟨ws, .inl (.inl (ok.s _ _ ha)), rfl⟩, k _ F H ok.gr fun F' _ => by rw [u.here.len]; rfl⟩
theorem rc_lenT {α : Type} {Rx : α → V → Hp → Prop} {xs : List α} {K : PySem.W.Frag} : RC pp (fun us H Q => ∃ x n, us = [x] ∧ LenV K x H n ∧ Q (.int n) H) [IsTs Rx xs] (IsI (xs.length : Int)) := fun vs F H Q ok a k => by
  cases a with
  | cons r t =>
    cases t
    obtain ⟨p, ws, rfl, ha, u⟩ := r.here
    exact ⟨_, ws.length, rfl, .inr ⟨ws, .inl (.inl (ok.s _ _ ha)), rfl⟩, k _ F H ok.gr fun F' _ => by rw [u.here.len]; rfl⟩
theorem rc_lenTp {Rl : List (V → Hp → Prop)} {K : PySem.W.Frag} : RC pp (fun us H Q => ∃ x n, us = [x] ∧ LenV K x H n ∧ Q (.int n) H) [IsTp Rl] (IsI (Rl.length : Int)) := fun vs F H Q ok a k => by
  cases a with
  | cons r t =>
    cases t
    obtain ⟨p, ws, rfl, ha, u⟩ := r.here
    exact ⟨_, ws.length, rfl, .inr ⟨ws, .inl (.inl (ok.s _ _ ha)), rfl⟩, k _ F H ok.gr fun F' _ => by rw [Args.len u.here]; rfl⟩
theorem rc_lenS {α : Type} {Rx : α → V → Hp → Prop} {xs : List α} {K : PySem.W.Frag} : RC pp (fun us H Q => ∃ x n, us = [x] ∧ LenV K x H n ∧ Q (.int n) H) [IsSq Rx xs] (IsI (xs.length : Int)) := fun vs F H Q ok a k => by
  cases a with
  | cons r t =>
    cases t
    rcases r.here with h | h
    · exact rc_len (K := K) (Rx := Rx) (xs := xs) [_] F H Q ok (.cons h.up .nil) k
    · exact rc_lenT (K := K) (Rx := Rx) (xs := xs) [_] F H Q ok (.cons h.up .nil) k
theorem rc_all {xs : List Bool} {K : PySem.W.Frag} : RC pp (rAll K) [IsL IsB xs] (IsB (xs.all id)) := fun vs F H Q ok a k => by
  cases a with
  | cons r t =>
    cases t
    obtain ⟨p, ws, rfl, ha, u⟩ := r.here
    have e := ls_bools u.here
    subst e
    exact ⟨p, xs, rfl, .inl (.inl (ok.s _ _ ha)), k _ F H ok.gr fun F' _ => rfl⟩
theorem rc_any {xs : List Bool} {K : PySem.W.Frag} : RC pp (rAny K) [IsL IsB xs] (IsB (xs.any id)) := fun vs F H Q ok a k => by
  cases a with
  | cons r t =>
    cases t
    obtain ⟨p, ws, rfl, ha, u⟩ := r.here
    have e := ls_bools u.here
    subst e
    exact ⟨p, xs, rfl, .inl (.inl (ok.s _ _ ha)), k _ F H ok.gr fun F' _ => rfl⟩
theorem rc_sum {xs : List Int} {K : PySem.W.Frag} : RC pp (rSum K) [IsL IsI xs] (IsI xs.sum) := fun vs F H Q ok a k => by
  cases a with
  | cons r t =>
    cases t
    obtain ⟨p, ws, rfl, ha, u⟩ := r.here
    have e := ls_ints u.here
    subst e
    exact ⟨p, xs, rfl, .inl (.inl (ok.s _ _ ha)), k _ F H ok.gr fun F' _ => rfl⟩
theorem rc_int {b : Bool} : RC pp (fun xs H Q => (∃ i, xs = [.int i] ∧ Q (.int i) H) ∨ ∃ k, xs = [.bl k] ∧ Q (.int (if k then 1 else 0)) H) [IsB b] (IsI (if b then 1 else 0)) := fun vs F H Q ok a k => by
  cases a with
  | cons r t =>
    cases t
    exact .inr ⟨b, by rw [r.here], k _ F H ok.gr fun F' _ => rfl⟩
theorem rc_intI {i : Int} : RC pp (fun xs H Q => (∃ i, xs = [.int i] ∧ Q (.int i) H) ∨ ∃ k, xs = [.bl k] ∧ Q (.int (if k then 1 else 0)) H) [IsI i] (IsI i) := fun vs F H Q ok a k => by
  cases a with
  | cons r t =>
    cases t
    exact .inl ⟨i, by rw [r.here], k _ F H ok.gr fun F' _ => rfl⟩
theorem rc_abs {i : Int} : RC pp (fun xs H Q => ∃ i, xs = [.int i] ∧ Q (.int (if i < 0 then -i else i)) H) [IsI i] (IsI (if i < 0 then -i else i)) := fun vs F H Q ok a k => by
  cases a with
  | cons r t =>
    cases t
    exact ⟨i, by rw [r.here], k _ F H ok.gr fun F' _ => rfl⟩
theorem rc_max2 {i j : Int} : RC pp (fun xs H Q => ∃ i j, xs = [.int i, .int j] ∧ Q (.int (if j > i then j else i)) H) [IsI i, IsI j] (IsI (if j > i then j else i)) := fun vs F H Q ok a k => by
  cases a with
  | cons r t =>
    cases t with
    | cons r2 t2 =>
      cases t2
      exact ⟨i, j, by rw [r.here, r2.here], k _ F H ok.gr fun F' _ => rfl⟩
theorem rc_gcd {i j : Int} : RC pp rGcd [IsI i, IsI j] (IsI ((Nat.gcd i.natAbs j.natAbs : Nat) : Int)) := fun vs F H Q ok a k => by
  cases a with
  | cons r t =>
    cases t with
    | cons r2 t2 =>
      cases t2
      exact ⟨i, j, by rw [r.here, r2.here], k _ F H ok.gr fun F' _ => rfl⟩
/-- lcm below 13,000 bits -/
def rLcm : List V → Hp → VK → Prop := fun vs H Q => ∃ a b : Int, vs = [.int a, .int b] ∧ (max 1 a.natAbs).log2 < 13000 ∧ (max a.natAbs b.natAbs).log2 < 13000 ∧ (Nat.lcm a.natAbs b.natAbs).log2 < 100000 ∧ Q (.int ((Nat.lcm a.natAbs b.natAbs : Nat) : Int)) H
theorem cr_lcm : CallR X (.builtin "math.lcm") rLcm := by
  intro pins s σ H vs us Q I r h
  obtain ⟨a, b, rfl, h1, h2, h3, q⟩ := h
  obtain ⟨t, u, rfl⟩ := Vals.int2 r
  have e1 : (Nat.lcm 1 a.natAbs).lcm b.natAbs = Nat.lcm a.natAbs b.natAbs := by rw [Nat.lcm_one_left]
  have hb : bitsLine = 134217728 := by decide
  have z := PySem.W.mg_run_lcm a t b u (by omega) (by omega) (by
    show (((Nat.lcm 1 a.natAbs).lcm b.natAbs : Nat) : Int).natAbs.log2 < bitsLine
    rw [e1, Int.natAbs_natCast, hb]
    omega)
  rw [e1] at z
  exact PySem.call_function_meets PySem.W.MGF.kind_lcm PySem.W.MGF.plain_lcm PySem.W.MGF.entry_lcm (PySem.W.MGF.args_lcm _ _) z.meets ⟨.int _, H, I.tok _, ⟨_, rfl⟩, q⟩
theorem rc_lcm {i j : Int} (h1 : (max 1 i.natAbs).log2 < 13000) (h2 : (max i.natAbs j.natAbs).log2 < 13000) (h3 : (Nat.lcm i.natAbs j.natAbs).log2 < 100000) : RC pp rLcm [IsI i, IsI j] (IsI ((Nat.lcm i.natAbs j.natAbs : Nat) : Int)) := fun vs F H Q ok a k => by
  cases a with
  | cons r t =>
    cases t with
    | cons r2 t2 =>
      cases t2
      exact ⟨i, j, by rw [r.here, r2.here], h1, h2, h3, k _ F H ok.gr fun F' _ => rfl⟩
theorem rc_tuple {α : Type} {Rx : α → V → Hp → Prop} {xs : List α} {K : PySem.W.Frag} : RC pp (fun us H Q => ∃ p ys, us = [.ref p] ∧ ((SqL K H p ys ∧ ∀ l, H l = none → Q (.ref l) (upd H l (.tup ys))) ∨ (SqT K H p ys ∧ Q (.ref p) H))) [IsL Rx xs] (IsTs Rx xs) := fun vs F H Q ok a k => by
  cases a with
  | cons r t =>
    cases t
    obtain ⟨p, ws, rfl, ha, u⟩ := r.here
    refine ⟨p, ws, rfl, .inl ⟨.inl (.inl (ok.s _ _ ha)), fun l hl => k _ _ _ (Gr.new ok hl) (TupOf.up ⟨l, ws, rfl, upd_same, u.mono (Ex.new (ok.s.back hl))⟩)⟩⟩
theorem jm_listRg {n : Nat} (p : PE X e (tLstRg (tRg1 (tE E G (IsI (n : Int)))))) (hn : n ≤ 100000) : PE X e (tM E G (LsOf IsI (upTo n))) := PE_imp p fun σ H Q ⟨F, S, k⟩ =>
  ⟨F, S, fun v F1 H1 g1 u1 => ⟨n, u1.here, RgOk.of_le (by omega) (by omega) (by omega) (by omega), fun q hq => k q _ F1 _ (g1.trans (Gr.raw g1.ok hq)) (g1.back hq) (g1.s.back hq) upd_same fun F' _ => by
    have all : ∀ l : List Nat, LsOf IsI (l.map fun (i : Nat) => (i : Int)) (l.map fun (i : Nat) => V.int (0 + (i : Int))) F' := fun l => by
      induction l with
      | nil => exact Paired.nil
      | cons x l ih => exact Paired.cons (fun _ _ => by show V.int (0 + (x : Int)) = V.int (x : Int); rw [Int.zero_add]) ih
    show LsOf IsI ((List.range n).map fun (i : Nat) => (i : Int)) ((List.range ((n : Int) - 0).toNat).map fun i => V.int (0 + (i : Nat))) F'
    rw [Int.sub_zero, Int.toNat_natCast]
    exact all _⟩⟩
end
end Gw
set_option maxHeartbeats 4000000
namespace PySem
open Sem (wp)
open Builtin
/-! an int's operator declines an instance -/
theorem gw_int_mul_inst (a : Int) (t : Tok) (l C dx : Addr) :
    Meets (Builtin.«int.__mul__» ⟨[.int a t, .ref l], []⟩) (fun _ R s => s.heap.get? l = some { cls := .ref C, dict := some dx, data := .plain, slots := #[] } ∧ R (.ok (.ret Value.notImplemented)) s) :=
  .of_wp fun prog w A R s h => by obtain ⟨hp, g, d, tk, os⟩ := s; obtain ⟨hl, h⟩ := h; wp_walk; exact ⟨_, rfl, h⟩
theorem gw_int_add_inst (a : Int) (t : Tok) (l C dx : Addr) :
    Meets (Builtin.«int.__add__» ⟨[.int a t, .ref l], []⟩) (fun _ R s => s.heap.get? l = some { cls := .ref C, dict := some dx, data := .plain, slots := #[] } ∧ R (.ok (.ret Value.notImplemented)) s) :=
  .of_wp fun prog w A R s h => by obtain ⟨hp, g, d, tk, os⟩ := s; obtain ⟨hl, h⟩ := h; wp_walk; exact ⟨_, rfl, h⟩
theorem gw_int_sub_inst (a : Int) (t : Tok) (l C dx : Addr) :
    Meets (Builtin.«int.__sub__» ⟨[.int a t, .ref l], []⟩) (fun _ R s => s.heap.get? l = some { cls := .ref C, dict := some dx, data := .plain, slots := #[] } ∧ R (.ok (.ret Value.notImplemented)) s) :=
  .of_wp fun prog w A R s h => by obtain ⟨hp, g, d, tk, os⟩ := s; obtain ⟨hl, h⟩ := h; wp_walk; exact ⟨_, rfl, h⟩
end PySem

namespace PySem.W
open Lean Elab Tactic Meta PySem PySem.Calls PyProof.Rows
section
variable {prog : Program} {w : World} {A : Around} {E : Value → Shared → Prop} {s : Shared} {K : Frag} {b C L f f0 : Addr} {h₀ : Heap} {m : Str → Option Value} {ox : Obj} {od : Option Obj}
/-- an int, an operator, an instance whose class has the reflected method -/
theorem gw_rbin {op : Operator} {i : Int} {t : Tok} {Q : Value → Shared → Prop} (F : Fr h₀ L s.heap m) (X₀ : K.In h₀) (I : InstAt s.heap b ox C od) (hc : selfFirst K C = true)
    (hs : findIn K (.ref C) (PySem.dunder op.info.2) = some (some (.ref f0))) (hr : findIn K (.ref C) (dunderR op.info.2) = some (some (.ref f))) (hf : isFn K (.ref f) = true) (hsub : subIn K (.ref C) (.type "int") = some false)
    (hfi : fillsNumberSlot (.type "int") op.info.2 = pure true) (hdec : wpAny (model prog w) A (tryMethod (.int i t) (PySem.dunder op.info.2) (.ref b)) (fun r s' => r = none ∧ s' = s) E s)
    (h : wpAny (model prog w) A (call (.ref f) [.ref b, .int i t]) (CmpBack Q) E s) : wpAny (model prog w) A (binaryOp op (.int i t) (.ref b)) Q E s := by
  have X := X₀.keeps F.keep
  obtain ⟨cd, rest, hcd, hm⟩ := ksp_first hc
  rcases hi : op.info with ⟨sym, nm'⟩
  rw [hi] at hs hr hfi hdec
  dsimp only at hs hr hfi hdec
  have one := ksp_try X I hr hf h
  obtain ⟨hh, g, d, tt, os⟩ := s
  have L1 : Looks (model prog w) hh (typeOf (.int i t)) (.type "int") := Looks.of_pure rfl
  have L2 : Looks (model prog w) hh (typeOf (.ref b)) (.ref C) := I.type
  have L3 : Looks (model prog w) hh (fillsNumberSlot (.type "int") nm') true := Looks.of_pure hfi
  have L4 : Looks (model prog w) hh (fillsNumberSlot (.ref C) nm') true := fills_K X hcd hm hs
  have L5 : Looks (model prog w) hh (isSubtype (.ref C) (.type "int")) false := looks_subIn X hsub
  have L7 : Looks (model prog w) hh (numberSlotInPython (.type "int") nm') false := Looks.of_pure rfl
  have hne : (Value.type "int" == Value.ref C) = false := Bool.eq_false_iff.mpr fun q => by cases beq_iff_eq.mp q
  simp only [binaryOp, hi]
  refine wpAny_holding (wpAny_bind ?_)
  unfold binaryOp1
  refine wpAny_bind (L1.at (wpAny_bind (L2.at (wpAny_bind (L3.at ?_)))))
  simp only [hne, Bool.false_eq_true, if_false]
  ksp_lk
  refine wpAny_mono hdec (fun r s' hr' => ?_) fun _ _ e => e
  obtain ⟨rfl, rfl⟩ := hr'
  ksp_lk
  refine wpAny_mono one (fun r s' hr' => ?_) fun _ _ e => e
  obtain ⟨v, rfl, hq⟩ := hr'
  ksp_lk
  exact hq
/-- != of two instances of a class with an own ==, object's != -/
theorem gw_ne {x y : Addr} {oy : Obj} {oyd : Option Obj} {Q : Value → Shared → Prop} (hu : A.units + 1 < cLine) (Fr0 : Fr h₀ L s.heap m) (X₀ : K.In h₀) (I : InstAt s.heap x ox C od) (J : InstAt s.heap y oy C oyd)
    (hs : findIn K (.ref C) "__eq__" = some (some (.ref f))) (hf : isFn K (.ref f) = true) (hne : findIn K (.ref C) "__ne__" = some (some (.builtin "object.__ne__"))) (hob : subIn K (.ref C) (.type "object") = some true)
    (h : wpAny (model prog w) A.in1 (call (.ref f) [.ref x, .ref y]) (fun v s' => ∃ b, v = .bool b ∧ Q (.bool (!b)) s') E s) : wpAny (model prog w) A (richCompare .NotEq (.ref x) (.ref y)) Q E s := by
  have X := X₀.keeps Fr0.keep
  have body : wpAny (model prog w) A.in1 (Builtin.«object.__ne__» ⟨[.ref x, .ref y], []⟩) (fun fin s' => ∃ b, fin = .done (.ret (.bool (!b))) ∧ Q (.bool (!b)) s') E s := by
    unfold Builtin.«object.__ne__»
    repeat (first
      | with_reducible refine wpAny_cRoomFor (by show A.in1.units < cLine; exact hu) ?_
      | (refine wpAny_bind (m := callSpecialIfBound? (.ref x) (Str.ofString "__eq__") [.ref y])
          (ifBound_K X I hs hf (wpAny_mono h (fun r s' hr => by
            obtain ⟨b, rfl, hq⟩ := hr
            repeat (first | exact ⟨b, rfl, hq⟩ | exact wpAny_truthy_bool (wpAny_pure ⟨b, rfl, hq⟩) | (refine wpAny_bind (m := truthy (.bool _)) (wpAny_truthy_bool ?_)) | wp_step)) fun _ _ e => e)))
      | wp_step)
  have hbind : ∀ self : Value, bindSpecial (.builtin "object.__ne__") self = pure (.builtin "object.__ne__", [self]) := fun self => F.slot_object_ne.bind self
  have call1 : wpAny (model prog w) A (call (.builtin "object.__ne__") [.ref x, .ref y]) (fun v s' => ∃ b, v = .bool (!b) ∧ Q (.bool (!b)) s') E s := by
    refine wpAny_call (codeAny_call_builtin F.slot_object_ne.plain F.cmpEntry_ne ?_)
    simp only [checkBuiltinCall, F.cmpKind_ne, F.cmpSplit_ne]
    refine wpAny_bind ?_
    unfold isInstance
    have hx : s.heap.get? x = some ox := I.at_
    have hc : ox.cls = .ref C := I.cls
    refine wpAny_bind (wpAny_bind (wpAny_loadPart hx (wpAny_pure ?_)))
    rw [hc]
    refine (looks_subIn X hob).here ?_
    have fin : ∀ s' : Shared, s' = s → wpAny (model prog w) A.in1 (Builtin.«object.__ne__» ⟨[.ref x, .ref y], []⟩) (fun fin s' => match fin with | .done f => wants (fun v s' => ∃ b, v = .bool (!b) ∧ Q (.bool (!b)) s') E (.ok f) s' | .again c' => c'.quiet = true ∧ codeAny (model prog w) A c' (wants (fun v s' => ∃ b, v = .bool (!b) ∧ Q (.bool (!b)) s') E) s') (fun e s' => wants (fun v s' => ∃ b, v = .bool (!b) ∧ Q (.bool (!b)) s') E (.error e) s') s' := fun s' e => by
      subst e
      refine wpAny_mono body (fun r s2 hr => ?_) fun _ _ z => z
      obtain ⟨b, rfl, hq⟩ := hr
      exact ⟨b, rfl, hq⟩
    have ha := F.cmpArgs_ne (.ref x) (.ref y)
    show wpAny _ _ (if (!true) = true then _ else _) _ _ _
    rw [if_neg (by decide)]
    cases hsig : Manifest.signature? "object.__ne__" with
    | none => exact wpAny_pure (fin s rfl)
    | some sig =>
      simp only [argsOk, hsig] at ha
      have h2 : Bind.checkArgs "object.__ne__" sig ⟨[.ref x, .ref y], []⟩ = pure () := ha
      show wpAny _ _ (Bind.checkArgs "object.__ne__" sig ⟨[.ref x, .ref y], []⟩) _ _ _
      rw [h2]
      exact wpAny_pure (fin s rfl)
  have try1 : wpAny (model prog w) A (tryCompare (.ref x) "__ne__" (.ref y)) (fun r s' => ∃ b, r = some (.bool (!b)) ∧ Q (.bool (!b)) s') E s := by
    unfold tryCompare
    simp only [callSpecialIfBound?, bindSpecialIfBound?]
    refine wpAny_bind (wpAny_holding (wpAny_bind (wpAny_bind (wpAny_bind (I.type.here ((looks_findIn X hne).here ?_))))))
    simp only [hbind]
    refine wpAny_bind (wpAny_askSetting (wpAny_ite ?_))
    have fin : wpAny (model prog w) A (call (.builtin "object.__ne__") ([.ref x] ++ [.ref y]) >>= fun v => pure (some v)) (fun r s' => wpAny (model prog w) A (match r with | some .notImplemented => pure none | none => pure none | some v => pure (some v)) (fun r s' => ∃ b, r = some (.bool (!b)) ∧ Q (.bool (!b)) s') E s') E s :=
      wpAny_bind (wpAny_mono call1 (fun v s' ⟨b, e, hq⟩ => by subst e; exact wpAny_pure (wpAny_pure ⟨b, rfl, hq⟩)) fun _ _ z => z)
    split
    · exact wpAny_bind (wpAny_pure (wpAny_pure fin))
    · exact wpAny_tryCatch (wpAny_bind (wpAny_pure (wpAny_pure fin)))
  unfold richCompare
  simp only [oneThing_ref]
  refine wpAny_holding (wpAny_bind (wpAny_cRoomFor (Nat.lt_of_succ_lt hu) ?_))
  rw [cmpInfo_NotEq]
  dsimp only
  refine wpAny_bind (I.type.here (wpAny_bind (J.type.here ?_)))
  rw [show (Value.ref C != Value.ref C) = false from by simp]
  simp only [Bool.false_eq_true, if_false]
  refine wpAny_bind (wpAny_pure ?_)
  simp only [Bool.false_eq_true, if_false]
  refine wpAny_bind (wpAny_mono try1 (fun r s' hr => ?_) fun _ _ e => e)
  obtain ⟨b, rfl, hq⟩ := hr
  first | exact wpAny_pure hq | exact wpAny_pure (wpAny_pure hq)
end
end PySem.W
set_option maxHeartbeats 4000000
namespace Gw
open PySem PySem.Spec PyProof.Rows L2

/-! ### own operators on the layer -/
section
variable {X : Cx} {k : Nat} {C f f0 : Addr} {fd : FuncData} {ps : List Str} {sp : Sp} {E' : XK} {op : Operator}
theorem pass00 : Passes CX0 X E' := fun _ _ _ _ _ _ _ h => h.elim
def InsV (C : Addr) (v : V) (H : Hp) : Prop := ∃ a dx fs, v = .ref a ∧ H a = some (.ins C dx fs)
theorem cmpBack_of {pins : List (Addr × Obj)} {σ : L2.St} {Q : VK} {u : Value} {s' : Shared} (h : EP X pins σ Q u s') : PySem.W.CmpBack (EP X pins σ Q) u s' := by
  obtain ⟨v, H', I, r, q⟩ := h
  have h : EP X pins σ Q u s' := ⟨v, H', I, r, q⟩
  cases u with
  | notImplemented =>
    cases v with
    | non => cases (show Value.notImplemented = Value.none from r)
    | bl b => cases (show Value.notImplemented = Value.bool b from r)
    | int i => obtain ⟨t, e⟩ := (show ∃ t, Value.notImplemented = Value.int i t from r); cases e
    | str x => obtain ⟨t, e⟩ := (show ∃ t, Value.notImplemented = Value.str x t from r); cases e
    | byt b => obtain ⟨t, e⟩ := (show ∃ t, Value.notImplemented = Value.bytes b t from r); cases e
    | flt b => obtain ⟨t, e⟩ := (show ∃ t, Value.notImplemented = Value.float b t from r); cases e
    | ref a => cases (show Value.notImplemented = Value.ref a from r)
    | ty n => cases (show Value.notImplemented = Value.type n from r)
  | _ => exact h
structure OwnB (K : PySem.W.Frag) (C f : Addr) (op : Operator) : Prop where
  sf : PySem.W.selfFirst K C = true
  at_ : PySem.W.findIn K (.ref C) (PySem.dunder op.info.2) = some (some (.ref f))
  fn : PySem.W.isFn K (.ref f) = true
/-- .. with ints at either side -/
structure OwnI (K : PySem.W.Frag) (C f g : Addr) (op : Operator) : Prop extends OwnB K C f op where
  rat : PySem.W.findIn K (.ref C) (dunderR op.info.2) = some (some (.ref g))
  gn : PySem.W.isFn K (.ref g) = true
  i1 : ∃ fo, PySem.W.findIn K (.type "int") (PySem.dunder op.info.2) = some fo
  i2 : ∃ ro, PySem.W.findIn K (.type "int") (dunderR op.info.2) = some ro
  s1 : PySem.W.subIn K (.type "int") (.ref C) = some false
  s2 : PySem.W.subIn K (.ref C) (.type "int") = some false
def rOwn (C : Addr) (sp : Sp) (E' : XK) : R2 := fun x y H Q => InsV C x H ∧ InsV C y H ∧ sp [x, y] H Q E'
def rOwnI (C : Addr) (sp : Sp) (E' : XK) : R2 := fun x y H Q => InsV C x H ∧ (∃ i, y = .int i) ∧ sp [x, y] H Q E'
def rIOwn (C : Addr) (sp : Sp) (E' : XK) : R2 := fun x y H Q => (∃ i, x = .int i) ∧ InsV C y H ∧ sp [y, x] H Q E'
theorem ins_inst {pins : List (Addr × Obj)} {σ : L2.St} {H : Hp} {s : Shared} (I : Inv X pins σ H s) {a dx : Addr} {fs : List (Str × V)} (e : H a = some (.ins C dx fs)) : ∃ ox od, PySem.W.InstAt s.heap a ox C od := by
  obtain ⟨mA, J, _⟩ := ins_get I.hok e
  obtain ⟨od, J, _⟩ := J.look
  exact ⟨_, _, J⟩
theorem op_own (O : OwnB X.K C f op) (F : FnOk X.prog X.w X.K X.mg X.base CX0 k f fd ps sp) (hr : Room k X.A) (hb : Binds X.K fd ps []) : OpR X (binaryOp op) (rOwn C sp E') := by
  intro pins s σ H x y v u Q I rx ry h
  obtain ⟨⟨a, dx, fs, rfl, ea⟩, ⟨b, dy, gs, rfl, eb⟩, h⟩ := h
  cases rx
  cases ry
  obtain ⟨_, _, J⟩ := ins_inst I ea
  obtain ⟨_, _, J'⟩ := ins_inst I eb
  obtain ⟨m, hF⟩ := I.fr
  refine PySem.W.binop_K hF I.ok.mod.kin J J'.type O.sf O.at_ O.fn ?_
  exact wpAny_mono (run_fn (us := [.ref a, .ref b]) (vs := [.ref a, .ref b]) (ds := []) (dvs := []) F hr hb .nil (pass00 (E' := E')) I (.cons rfl (.cons rfl .nil)) (by rw [List.append_nil]; exact h)) (fun _ _ q => cmpBack_of q) fun _ _ q => q
theorem op_ownI {g : Addr} (O : OwnI X.K C f g op) (F : FnOk X.prog X.w X.K X.mg X.base CX0 k f fd ps sp) (hr : Room k X.A) (hb : Binds X.K fd ps []) : OpR X (binaryOp op) (rOwnI C sp E') := by
  intro pins s σ H x y v u Q I rx ry h
  obtain ⟨⟨a, dx, fs, rfl, ea⟩, ⟨i, rfl⟩, h⟩ := h
  cases rx
  obtain ⟨t, rfl⟩ := ry
  obtain ⟨_, _, J⟩ := ins_inst I ea
  obtain ⟨m, hF⟩ := I.fr
  obtain ⟨fo, h1⟩ := O.i1
  obtain ⟨ro, h2⟩ := O.i2
  refine PySem.W.ksp_binT hF I.ok.mod.kin J rfl O.sf O.at_ O.fn O.rat (.inr ⟨_, rfl⟩) h1 h2 O.s1 ?_
  exact wpAny_mono (run_fn (us := [.ref a, .int i t]) (vs := [.ref a, .int i]) (ds := []) (dvs := []) F hr hb .nil (pass00 (E' := E')) I (.cons rfl (.cons ⟨_, rfl⟩ .nil)) (by rw [List.append_nil]; exact h)) (fun _ _ q => cmpBack_of q) fun _ _ q => q
/-- the int's own operator declines -/
def Decl (op : Operator) : Prop := fillsNumberSlot (.type "int") op.info.2 = pure true ∧ ∀ (prog : Program) (w : World) (A : Around) (E : Value → Shared → Prop) (s : Shared) (i : Int) (t : Tok) (b C : Addr) (ox : Obj) (od : Option Obj), PySem.W.InstAt s.heap b ox C od →
  wpAny (model prog w) A (tryMethod (.int i t) (PySem.dunder op.info.2) (.ref b)) (fun r s' => r = none ∧ s' = s) E s
theorem inst_plain {h : Heap} {b C : Addr} {ox : Obj} {od : Option Obj} (J : PySem.W.InstAt h b ox C od) : ∃ dx, h.get? b = some { cls := .ref C, dict := dx, data := ox.data, slots := ox.slots } := by
  have h1 := J.at_
  have h2 := J.cls
  obtain ⟨c, d, dt, sl⟩ := ox
  simp only at h2
  subst h2
  exact ⟨_, h1⟩
theorem op_Iown {g : Addr} (O : OwnI X.K C f g op) (D : ∀ (A : Around) (E : Value → Shared → Prop) (s : Shared) (i : Int) (t : Tok) (b dx : Addr), s.heap.get? b = some (PySem.W.instObj C dx) →
      wpAny (model X.prog X.w) A (tryMethod (.int i t) (PySem.dunder op.info.2) (.ref b)) (fun r s' => r = none ∧ s' = s) E s) (hfi : fillsNumberSlot (.type "int") op.info.2 = pure true)
    (F : FnOk X.prog X.w X.K X.mg X.base CX0 k g fd ps sp) (hr : Room k X.A) (hb : Binds X.K fd ps []) : OpR X (binaryOp op) (rIOwn C sp E') := by
  intro pins s σ H x y v u Q I rx ry h
  obtain ⟨⟨i, rfl⟩, ⟨a, dx, fs, rfl, ea⟩, h⟩ := h
  cases ry
  obtain ⟨t, rfl⟩ := rx
  obtain ⟨_, _, J⟩ := ins_inst I ea
  obtain ⟨mA, OM, _⟩ := ins_get I.hok ea
  obtain ⟨m, hF⟩ := I.fr
  refine PySem.W.gw_rbin hF I.ok.mod.kin J O.sf O.at_ O.rat O.gn O.s2 hfi (D _ _ _ _ _ _ _ OM.obj) ?_
  exact wpAny_mono (run_fn (us := [.ref a, .int i t]) (vs := [.ref a, .int i]) (ds := []) (dvs := []) F hr hb .nil (pass00 (E' := E')) I (.cons rfl (.cons ⟨_, rfl⟩ .nil)) (by rw [List.append_nil]; exact h)) (fun _ _ q => cmpBack_of q) fun _ _ q => q
theorem decl_sub {prog : Program} {w : World} (A : Around) (E : Value → Shared → Prop) (s : Shared) (i : Int) (t : Tok) (b dx : Addr) (h : s.heap.get? b = some (PySem.W.instObj C dx)) :
    wpAny (model prog w) A (tryMethod (.int i t) (PySem.dunder (Operator.Sub).info.2) (.ref b)) (fun r s' => r = none ∧ s' = s) E s := by
  show wpAny (model prog w) A (tryMethod (.int i t) (PySem.dunder "sub") (.ref b)) (fun r s' => r = none ∧ s' = s) E s
  have m := gw_int_sub_inst i t b C dx
  have a := F.args_int_sub_2 (.int i t) (.ref b)
  have e := F.entry_int_sub
  have q1 := typeIs_int s i t
  have q3 := @wpAny_tryMethod_declines (model prog w) A E s (.int i t) (.ref b) "int" (dunder "sub") "int.__sub__" (fun r s' => r = none ∧ s' = s) q1 F.slot_int_sub
  refine q3 ?_
  have z := @call_meets prog w A E s
  have z2 := z (self := .int i t) (rest := [.ref b]) (Q := fun v s' => v = .notImplemented ∧ none = (none : Option Value) ∧ s' = s) F.slot_int_sub q1 e a m
  exact z2 ⟨h, rfl, rfl, rfl⟩
theorem decl_mul {prog : Program} {w : World} (A : Around) (E : Value → Shared → Prop) (s : Shared) (i : Int) (t : Tok) (b dx : Addr) (h : s.heap.get? b = some (PySem.W.instObj C dx)) :
    wpAny (model prog w) A (tryMethod (.int i t) (PySem.dunder (Operator.Mult).info.2) (.ref b)) (fun r s' => r = none ∧ s' = s) E s := by
  show wpAny (model prog w) A (tryMethod (.int i t) (PySem.dunder "mul") (.ref b)) (fun r s' => r = none ∧ s' = s) E s
  have m := gw_int_mul_inst i t b C dx
  have a := F.args_int_mul_2 (.int i t) (.ref b)
  have e := F.entry_int_mul
  have q1 := typeIs_int s i t
  have q3 := @wpAny_tryMethod_declines (model prog w) A E s (.int i t) (.ref b) "int" (dunder "mul") "int.__mul__" (fun r s' => r = none ∧ s' = s) q1 F.slot_int_mul
  refine q3 ?_
  have z := @call_meets prog w A E s
  have z2 := z (self := .int i t) (rest := [.ref b]) (Q := fun v s' => v = .notImplemented ∧ none = (none : Option Value) ∧ s' = s) F.slot_int_mul q1 e a m
  exact z2 ⟨h, rfl, rfl, rfl⟩
theorem decl_add {prog : Program} {w : World} (A : Around) (E : Value → Shared → Prop) (s : Shared) (i : Int) (t : Tok) (b dx : Addr) (h : s.heap.get? b = some (PySem.W.instObj C dx)) :
    wpAny (model prog w) A (tryMethod (.int i t) (PySem.dunder (Operator.Add).info.2) (.ref b)) (fun r s' => r = none ∧ s' = s) E s := by
  show wpAny (model prog w) A (tryMethod (.int i t) (PySem.dunder "add") (.ref b)) (fun r s' => r = none ∧ s' = s) E s
  have m := gw_int_add_inst i t b C dx
  have a := F.args_int_add_2 (.int i t) (.ref b)
  have e := F.entry_int_add
  have q1 := typeIs_int s i t
  have q3 := @wpAny_tryMethod_declines (model prog w) A E s (.int i t) (.ref b) "int" (dunder "add") "int.__add__" (fun r s' => r = none ∧ s' = s) q1 F.slot_int_add
  refine q3 ?_
  have z := @call_meets prog w A E s
  have z2 := z (self := .int i t) (rest := [.ref b]) (Q := fun v s' => v = .notImplemented ∧ none = (none : Option Value) ∧ s' = s) F.slot_int_add q1 e a m
  exact z2 ⟨h, rfl, rfl, rfl⟩
/-- x == y of two instances, by the own == -/
theorem op_eqOwn (hs : PySem.W.findIn X.K (.ref C) "__eq__" = some (some (.ref f))) (hf : PySem.W.isFn X.K (.ref f) = true) (F : FnOk X.prog X.w X.K X.mg X.base CX0 k f fd ps sp) (hr : Room k X.A) (hb : Binds X.K fd ps []) : OpR X (compareOp .Eq) (rOwn C sp E') := by
  intro pins s σ H x y v u Q I rx ry h
  obtain ⟨⟨a, dx, fs, rfl, ea⟩, ⟨b, dy, gs, rfl, eb⟩, h⟩ := h
  cases rx
  cases ry
  obtain ⟨_, _, J⟩ := ins_inst I ea
  obtain ⟨_, _, J'⟩ := ins_inst I eb
  obtain ⟨m, hF⟩ := I.fr
  show wpAny (model X.prog X.w) X.A (richCompare .Eq _ _) (EP X pins σ Q) X.xe s
  refine PySem.W.cmp_K (op := .Eq) (tb := .ref C) hr.units0 hF I.ok.mod.kin J J'.type (by simp [PySem.W.notFirst]) hs hf ?_
  exact wpAny_mono (run_fn (us := [.ref a, .ref b]) (vs := [.ref a, .ref b]) (ds := []) (dvs := []) F hr hb .nil (pass00 (E' := E')) I (.cons rfl (.cons rfl .nil)) (by rw [List.append_nil]; exact h)) (fun _ _ q => cmpBack_of q) fun _ _ q => q
def rOwnN (C : Addr) (sp : Sp) (E' : XK) : R2 := fun x y H Q => InsV C x H ∧ InsV C y H ∧ sp [x, y] H (fun v H' => ∃ b, v = .bl b ∧ Q (.bl (!b)) H') E'
theorem op_neOwn (hs : PySem.W.findIn X.K (.ref C) "__eq__" = some (some (.ref f))) (hf : PySem.W.isFn X.K (.ref f) = true) (hne : PySem.W.findIn X.K (.ref C) "__ne__" = some (some (.builtin "object.__ne__"))) (hob : PySem.W.subIn X.K (.ref C) (.type "object") = some true)
    (F : FnOk X.prog X.w X.K X.mg X.base CX0 k f fd ps sp) (hr : Room (k + 1) X.A) (hb : Binds X.K fd ps []) : OpR X (compareOp .NotEq) (rOwnN C sp E') := by
  intro pins s σ H x y v u Q I rx ry h
  obtain ⟨⟨a, dx, fs, rfl, ea⟩, ⟨b, dy, gs, rfl, eb⟩, h⟩ := h
  cases rx
  cases ry
  obtain ⟨_, _, J⟩ := ins_inst I ea
  obtain ⟨_, _, J'⟩ := ins_inst I eb
  obtain ⟨m, hF⟩ := I.fr
  show wpAny (model X.prog X.w) X.A (richCompare .NotEq _ _) (EP X pins σ Q) X.xe s
  refine PySem.W.gw_ne (by have := hr.un; omega) hF I.ok.mod.kin J J' hs hf hne hob ?_
  have r2 : Vals [V.ref a, V.ref b] [Value.ref a, Value.ref b] := .cons rfl (.cons rfl .nil)
  have hl : ([Value.ref a, Value.ref b] ++ []).length = ps.length := by
    rw [← F.len _ _ _ _ h]
    rfl
  refine wpAny_call (codeAny_mono (F.run X.A.in1 X.stack s H ⟨[.ref a, .ref b], []⟩ [.ref a, .ref b] [.ref a, .ref b] _ E' hr.in1 I.env0.in1 (by
    have := hb s [.ref a, .ref b] I.kIn hl
    rwa [List.append_nil] at this) r2 h) fun r s' hq => ?_)
  cases r with
  | error er => exact False.elim hq
  | ok fl =>
    cases fl with
    | ret w =>
      obtain ⟨z, H', I', rz, b', ez, q⟩ := I.after hq
      subst ez
      cases (show w = Value.bool b' from rz)
      exact ⟨b', rfl, .bl (!b'), H', I', rfl, q⟩
    | next => exact False.elim hq
    | brk => exact False.elim hq
    | cont => exact False.elim hq
end
end Gw
set_option maxHeartbeats 4000000
namespace Gw
open PySem PySem.Spec PyProof.Rows L2

/-! ### the kinds of Ratios -/
def kTop : Str := "own_top"
def kBot : Str := "own_bottom"
def qFs (q : Rat) : List (Str × V) := [(kTop, .int q.num), (kBot, .int (q.den : Int))]
def IsQ (C : Addr) (q : Rat) (v : V) (F : Hp) : Prop := ∃ a dx, v = .ref a ∧ F a = some (.ins C dx (qFs q))
def IsNm (C : Addr) (q : Rat) (v : V) (F : Hp) : Prop := IsQ C q v F ∨ ∃ i : Int, q = (i : Rat) ∧ v = .int i
def IsC (c v : V) (_ : Hp) : Prop := v = c
theorem IsQ.mono {C : Addr} {q : Rat} {v : V} {F F' : Hp} (h : IsQ C q v F) (e : Ex F F') : IsQ C q v F' := let ⟨a, dx, h1, h2⟩ := h; ⟨a, dx, h1, e _ _ h2⟩
theorem IsQ.up {C : Addr} {q : Rat} {v : V} {F : Hp} (h : IsQ C q v F) : Up (IsQ C q) v F := fun _ e => h.mono e
theorem IsNm.mono {C : Addr} {q : Rat} {v : V} {F F' : Hp} (h : IsNm C q v F) (e : Ex F F') : IsNm C q v F' := h.elim (fun h => .inl (h.mono e)) .inr
theorem IsNm.up {C : Addr} {q : Rat} {v : V} {F : Hp} (h : IsNm C q v F) : Up (IsNm C q) v F := fun _ e => h.mono e
theorem IsQ.insV {C : Addr} {q : Rat} {v : V} {F H : Hp} (h : IsQ C q v F) (e : Ex F H) : InsV C v H := let ⟨a, dx, h1, h2⟩ := h; ⟨a, dx, _, h1, e _ _ h2⟩
theorem isQ_nm {C : Addr} {q : Rat} : ∀ v F, IsQ C q v F → IsNm C q v F := fun _ _ h => .inl h
theorem isI_nm {C : Addr} {i : Int} : ∀ v F, IsI i v F → IsNm C (i : Rat) v F := fun _ _ h => .inr ⟨i, rfl, h⟩
/-- what of the text class Ratio has -/
structure RatF (K : PySem.W.Frag) (C : Addr) : Prop where
  cls : Cls K C
  nt : NoAttr K C kTop
  nb : NoAttr K C kBot
  kc : PySem.W.findIn K (.ref C) "__class__" = some (some (.builtin "object.__class__"))
  kg : PySem.W.specialIn K (.builtin "object.__class__") "__get__" = some (some (.builtin "getset_descriptor.__get__"))
  kt : PySem.W.takesIn K (.builtin "object.__class__") = some true
  km : PySem.W.mroIn K C (.type "object") = some true
  oo : PySem.W.kitOne K (.ref C) (.ref C) = some true
  io : PySem.W.kitOne K (.type "int") (.ref C) = some false
  oi : PySem.W.kitOne K (.ref C) (.type "int") = some false
section
variable {X : Cx} {E : En} {G : List Sl} {e o a b c : Expr} {R R' Ra Rb Rz : V → Hp → Prop} {pos : Pos} {C : Addr} {q r : Rat} {pp : Option Addr} {E' : XK} {K : PySem.W.Frag}
/-! ### fields -/
theorem je_top (T : RatF X.K C) (p : PE X e (tE E G (IsQ C q))) (hb : attributeBase e kTop X.env (eval e X.env) = eval e X.env := by rfl) : PE X (.Attribute e kTop pos) (tE E G (IsI q.num)) :=
  PE_imp (pe_fld p hb) fun σ H Q ⟨F, S, k⟩ => ⟨F, S, fun v F1 H1 g1 u1 => by
    obtain ⟨a, dx, rfl, ha⟩ := u1.here
    exact ⟨a, C, dx, _, .int q.num, rfl, g1.s _ _ ha, T.cls, T.nt, rfl, k _ F1 H1 g1 fun _ _ => rfl⟩⟩
theorem je_bot (T : RatF X.K C) (p : PE X e (tE E G (IsQ C q))) (hb : attributeBase e kBot X.env (eval e X.env) = eval e X.env := by rfl) : PE X (.Attribute e kBot pos) (tE E G (IsI (q.den : Int))) :=
  PE_imp (pe_fld p hb) fun σ H Q ⟨F, S, k⟩ => ⟨F, S, fun v F1 H1 g1 u1 => by
    obtain ⟨a, dx, rfl, ha⟩ := u1.here
    exact ⟨a, C, dx, _, .int (q.den : Int), rfl, g1.s _ _ ha, T.cls, T.nb, rfl, k _ F1 H1 g1 fun _ _ => rfl⟩⟩
/-! ### isinstance -/
theorem tyx_int {i : Int} {H : Hp} : TyX K H (.int i) (.type "int") := .base (.int i)
theorem tyx_Q (T : RatF K C) {v : V} {F H : Hp} (h : IsQ C q v F) (e : Ex F H) : TyX K H v (.ref C) := by
  obtain ⟨a, dx, rfl, ha⟩ := h
  exact .base (.ins (e _ _ ha) T.cls T.kc T.kg T.kt T.km)
/-- isinstance(x, c) of one class -/
theorem rc_isi {b : Bool} {t u : Value} {c : V} (hc : ClsV c u) (hk : PySem.W.kitOne K t u = some b) (hty : ∀ v F H, Ex F H → R v F → TyX K H v t) : RC pp (rIsi K) [R, IsC c] (IsB b) := fun vs F H Q ok a k => by
  cases a with
  | cons r t =>
    cases t with
    | cons r2 t2 =>
      cases t2
      have e : _ = c := r2.here
      subst e
      exact ⟨_, _, _, _, b, rfl, hc, hty _ F H ok.s r.here, hk, k _ F H ok.gr fun F' _ => rfl⟩
/-- isinstance(x, (c, d)), of a list or tuple -/
theorem rc_isiT {b : Bool} {t : Value} {cs : List V} {us : List Value} (hc : Paired ClsV cs us) (hk : PySem.W.kitAny K t us = some b) (hty : ∀ v F H, Ex F H → R v F → TyX K H v t) (hl : cs.map IsC = Rz' := by rfl) : RC pp (rIsiT K) [R, TupOf (Args Rz')] (IsB b) := fun vs F H Q ok a k => by
  subst hl
  cases a with
  | cons r t =>
    cases t with
    | cons r2 t2 =>
      cases t2
      obtain ⟨p, ws, rfl, hp, uw⟩ := r2.here
      have e : ws = cs := by
        have all : ∀ {cs ws : List V}, Paired (fun R v => Up R v F) (cs.map IsC) ws → ws = cs := by
          intro cs
          induction cs with
          | nil => intro ws h; cases h; rfl
          | cons c cs ih =>
            intro ws h
            cases h with
            | cons h1 h2 => rw [ih h2, show _ = c from h1.here]
        exact all uw.here
      subst e
      exact ⟨_, p, ws, _, us, b, rfl, ok.s _ _ hp, hc, hty _ F H ok.s r.here, hk, k _ F H ok.gr fun F' _ => rfl⟩
/-! ### own operators, kinds -/
variable {pre : Rat × Rat → Prop} {Rf : Rat × Rat → V → Hp → Prop}
abbrev qA (C : Addr) : Rat × Rat → List (V → Hp → Prop) := fun w => [IsQ C w.1, IsNm C w.2]
theorem rop_own (hp : pre (q, r)) : ROp pp (rOwn C (Pr (qA C) pre Rf) E') (IsQ C q) (IsQ C r) (Rf (q, r)) := fun x y F H Q ok u1 u2 k =>
  ⟨u1.here.insV ok.s, u2.here.insV ok.s, F, (q, r), ok.none, .cons u1 (.cons (u2.imp fun F h => .inl h) .nil), hp, fun v F' H' g u => k v F' H' (g.lift ok) u⟩
theorem rop_ownI {i : Int} (hp : pre (q, (i : Rat))) : ROp pp (rOwnI C (Pr (qA C) pre Rf) E') (IsQ C q) (IsI i) (Rf (q, (i : Rat))) := fun x y F H Q ok u1 u2 k =>
  ⟨u1.here.insV ok.s, ⟨i, u2.here⟩, F, (q, (i : Rat)), ok.none, .cons u1 (.cons (u2.imp fun F h => .inr ⟨i, rfl, h⟩) .nil), hp, fun v F' H' g u => k v F' H' (g.lift ok) u⟩
theorem rop_Iown {i : Int} (hp : pre (q, (i : Rat))) : ROp pp (rIOwn C (Pr (qA C) pre Rf) E') (IsI i) (IsQ C q) (Rf (q, (i : Rat))) := fun x y F H Q ok u1 u2 k =>
  ⟨⟨i, u1.here⟩, u2.here.insV ok.s, F, (q, (i : Rat)), ok.none, .cons u2 (.cons (u1.imp fun F h => .inr ⟨i, rfl, h⟩) .nil), hp, fun v F' H' g u => k v F' H' (g.lift ok) u⟩
abbrev qE (C : Addr) : Rat × Rat → List (V → Hp → Prop) := fun w => [IsQ C w.1, IsQ C w.2]
theorem rop_eqQ : ROp pp (rOwn C (Pr (qE C) (fun _ => True) fun w => IsB (decide (w.1 = w.2))) E') (IsQ C q) (IsQ C r) (IsB (decide (q = r))) := fun x y F H Q ok u1 u2 k =>
  ⟨u1.here.insV ok.s, u2.here.insV ok.s, F, (q, r), ok.none, .cons u1 (.cons u2 .nil), trivial, fun v F' H' g u => k v F' H' (g.lift ok) u⟩
theorem rop_neQ : ROp pp (rOwnN C (Pr (qE C) (fun _ => True) fun w => IsB (decide (w.1 = w.2))) E') (IsQ C q) (IsQ C r) (IsB (!decide (q = r))) := fun x y F H Q ok u1 u2 k =>
  ⟨u1.here.insV ok.s, u2.here.insV ok.s, F, (q, r), ok.none, .cons u1 (.cons u2 .nil), trivial, fun v F' H' g u => ⟨_, u.here, k _ F' H' (g.lift ok) fun _ _ => rfl⟩⟩
/-- an operation by two roads -/
theorem opR_or {f : Value → Value → Sem Value} {r1 r2 : R2} (h1 : OpR X f r1) (h2 : OpR X f r2) : OpR X f (fun x y H Q => r1 x y H Q ∨ r2 x y H Q) := fun pins s σ H x y v u Q I rx ry h => h.elim (h1 pins s σ H x y v u Q I rx ry) (h2 pins s σ H x y v u Q I rx ry)
/-! ### properties, methods, classmethods -/
variable {ι : Type} {Rs : ι → List (V → Hp → Prop)} {pr : ι → Prop} {Rg : ι → V → Hp → Prop}
theorem je_prop (w : ι) (p : PE X e (tProp C (Pr Rs pr Rg) [] E' (tE E G (IsQ C q)))) (hw : Rs w = [IsQ C q]) (hp : pr w) : PE X e (tE E G (Rg w)) := PE_imp p fun σ H Q ⟨F, S, k⟩ => ⟨F, S, fun v F1 H1 g1 u1 => by
  have u2 := u1
  obtain ⟨a, dx, rfl, ha⟩ := u1.here
  exact ⟨a, dx, _, rfl, g1.s _ _ ha, F1, w, g1.ok.none, by rw [hw]; exact .cons u2 .nil, hp, fun v F' H' g u => k v F' H' (g1.trans (g.lift g1.ok)) u⟩⟩
theorem lookup_qFs {m : Str} (h1 : (m == kTop) = false) (h2 : (m == kBot) = false) : (qFs q).lookup m = none := by
  unfold qFs
  simp [List.lookup, h1, h2]
theorem je_meth {Rl : List (V → Hp → Prop)} {m : Str} (w : ι) (p : PE X e (tMeth C m (Pr Rs pr Rg) [] E' (tE E G (IsQ C q)) (tA E G Rl))) (hw : Rs w = IsQ C q :: Rl) (hp : pr w) (h1 : (m == kTop) = false := by decide) (h2 : (m == kBot) = false := by decide) : PE X e (tE E G (Rg w)) := PE_imp p fun σ H Q ⟨F, S, k⟩ => ⟨F, S, fun v F1 H1 g1 u1 => by
  have u2 := u1
  obtain ⟨a, dx, rfl, ha⟩ := u1.here
  refine ⟨a, dx, _, rfl, g1.s _ _ ha, lookup_qFs h1 h2, F1, S.gr g1, fun vs F2 H2 g2 u3 => ?_⟩
  have g := g1.trans g2
  exact ⟨F2, w, g.ok.none, by rw [hw, List.append_nil]; exact .cons (u2.mono g2.f) u3, hp, fun v F' H' g3 u => k v F' H' (g.trans (g3.lift g.ok)) u⟩⟩
theorem je_cmeth {Rl : List (V → Hp → Prop)} (w : ι) (p : PE X e (ClX.tCMeth C (Pr Rs pr Rg) E' (tC (.ref C)) (tA E G Rl))) (hw : Rs w = IsC (.ref C) :: Rl) (hp : pr w) : PE X e (tE E G (Rg w)) := PE_imp p fun σ H Q ⟨F, S, k⟩ =>
  ⟨rfl, F, S, fun vs F2 H2 g u3 => ⟨F2, w, g.ok.none, by rw [hw]; exact .cons (fun _ _ => rfl) u3, hp, fun v F' H' g3 u => k v F' H' (g.trans (g3.lift g.ok)) u⟩⟩
/-! ### making a Ratio -/
def FinI (H0 : Hp) (x C dx : Addr) (fs : List (Str × V)) (H' : Hp) : Prop := H' x = some (.ins C dx fs) ∧ ∀ a o, a ≠ x → H0 a = some o → H' a = some o
def Ht (b : Int) : Prop := b ≠ 0 ∧ b.natAbs.log2 < 9000
def InitSp (C : Addr) : Sp := fun vs H Q _ => ∃ (F : Hp) (x dx : Addr) (t b : Int), vs = [.ref x, .int t, .int b] ∧ Ok none F H ∧ F x = none ∧ H x = some (.ins C dx []) ∧ Ht b ∧ ∀ H', FinI H x C dx (qFs (Rat.divInt t b)) H' → Q .non H'
theorem je_make {dvs : List V} {Rl : List (V → Hp → Prop)} {t b : Int} (p : PE X e (tMake C (InitSp C) dvs E' (tA E G Rl))) (hv : ∀ vs F, Args Rl vs F → vs ++ dvs = [.int t, .int b]) (hb : Ht b) : PE X e (tE E G (IsQ C (Rat.divInt t b))) := PE_imp p fun σ H Q ⟨F, S, k⟩ => ⟨F, S, fun vs F1 H1 g1 a x dx hx hdx hne => by
  have n1 : F1 x = none := g1.s.back hx
  have n2 : F1 dx = none := g1.s.back hdx
  refine ⟨F1, x, dx, t, b, by rw [hv vs F1 a], ⟨fun y o h => ?_, fun _ h => nomatch h⟩, n1, upd_same, hb, fun H' fin => ⟨rfl, ?_⟩⟩
  · rw [upd_ne (ne_of_none h n1), upd_ne (ne_of_none h n2)]
    exact g1.s _ _ h
  · have keep : ∀ y o, H1 y = some o → H' y = some o := fun y o h => fin.2 y o (ne_of_none h hx) (by rw [upd_ne (ne_of_none h hx), upd_ne (ne_of_none h hdx)]; exact h)
    refine k (.ref x) (upd F1 x (.ins C dx (qFs (Rat.divInt t b)))) H' ⟨g1.f.trans (Ex.new n1), fun y o h => ?_, fun y o h hp => keep y o (g1.k y o h hp), fun y o h => ?_, fun y hy => ?_⟩ (IsQ.up ⟨x, dx, rfl, upd_same⟩)
    · by_cases z : y = x
      · subst z
        rw [upd_same] at h
        cases h
        exact fin.1
      · rw [upd_ne z] at h
        exact keep y o (g1.s _ _ h)
    · by_cases z : y = x
      · rw [z]
        exact .inr (g1.back hx)
      · rw [upd_ne z] at h
        exact g1.n y o h
    · obtain ⟨q1, i, j, q2, q3⟩ := g1.p y hy
      have z : y ≠ x := ne_of_none q2 hx
      exact ⟨by rw [upd_ne z]; exact q1, i, j, keep y _ q2, q3⟩⟩
theorem je_make2 {t b : Int} (p : PE X e (tMake C (InitSp C) [] E' (tA E G [IsI t, IsI b]))) (hb : Ht b) : PE X e (tE E G (IsQ C (Rat.divInt t b))) := je_make p (fun vs F a => by
  cases a with
  | cons r t =>
    cases t with
    | cons r2 t2 =>
      cases t2
      rw [show _ = V.int _ from r.here, show _ = V.int _ from r2.here]
      rfl) hb
theorem je_make1 {t : Int} (p : PE X e (tMake C (InitSp C) [.int 1] E' (tA E G [IsI t]))) : PE X e (tE E G (IsQ C (t : Rat))) := by
  have h := je_make (t := t) (b := 1) p (fun vs F a => by
    cases a with
    | cons r t =>
      cases t
      rw [show _ = V.int _ from r.here]
      rfl) ⟨by decide, by decide⟩
  have e : Rat.divInt t 1 = (t : Rat) := (Rat.mk_eq_divInt (num := t) (den := 1) (nz := by decide) (c := by simp)).symm
  rw [e] at h
  exact h
end
/-! ### __init__'s body -/
section
variable {X : Cx} {E : En} {G : List Sl} {st : Stmt} {rest : List Stmt} {C x dx : Addr} {fs : List (Str × V)}
def tSI (E : En) (C x dx : Addr) (fs : List (Str × V)) (G : List Sl) : TS := fun D σ H => ∃ F, Sat E G σ F H ∧ E.H x = some (.ins C dx []) ∧ E.F x = none ∧ E.pp = none ∧ ∀ σ' H', FinI E.H x C dx fs H' → D.nx σ' H'
theorem js_initS {G1 : List Sl} (p : PS X st (tS E G (fun _ _ _ => False) (· = G1))) (q : PSs X rest (tSI E C x dx fs G1)) : PSs X (st :: rest) (tSI E C x dx fs G) := PSs_imp (pss_cons p q) fun D σ H ⟨F, S, h1, h2, h3, kn⟩ =>
  ⟨F, S, fun G1' σ1 F1 H1 n1 S1 e1 => by
    subst n1
    exact ⟨F1, S1, h1, h2, h3, kn⟩, fun _ _ _ _ h => h.elim⟩
def Plain (G : List Sl) : Prop := ∀ (i : Nat) (s : Sl), G[i]? = some s → s = .un ∨ ∃ R, s = .fz R
theorem Sat.reE {σ : L2.St} {F H H' : Hp} (S : Sat E G σ F H) (hG : Plain G) (e : Ex F H') : Sat ⟨F, H', none⟩ G σ F H' where
  len := S.len
  bs := ⟨Ex.refl F, e, fun _ _ h _ => h, fun _ _ h => .inl h, fun _ h => nomatch h⟩
  p0 := fun _ h => nomatch h
  fz := S.fz
  mt := fun i R h => by
    rcases hG i _ h with z | ⟨_, z⟩ <;> cases z
  ap := fun i j R S p _ h _ => by
    rcases hG i _ h with z | ⟨_, z⟩ <;> cases z
  pt := fun i h => by
    rcases hG i _ h with z | ⟨_, z⟩ <;> cases z
theorem js_initE {t b : Int} {e1 e2 o1 o2 : Expr} {pa pb p1 p2 : Pos} (T : RatF X.K C) (hG : Plain G) (h0 : G[0]? = some (.fz (IsC (.ref x)))) (q1 : PE X e1 (tE E G (IsI t))) (q2 : ∀ E, PE X e2 (tE E G (IsI b))) (v1 : PE X o1 (tVar 0)) (v2 : PE X o2 (tVar 0))
    (s1 : swapsWith e1 (some (.Attribute o1 kTop pa)) p1.line X.env = pure false := by rfl) (s2 : swapsWith e2 (some (.Attribute o2 kBot pb)) p2.line X.env = pure false := by rfl) :
    PSs X [.Assign [.Attribute o1 kTop pa] e1 p1, .Assign [.Attribute o2 kBot pb] e2 p2] (tSI E C x dx [(kTop, .int t), (kBot, .int b)] G) := by
  refine PSs_imp (pss_cons (ps_fld v1 q1 s1) (pss_one (ps_fld v2 (PE_any q2) s2))) fun D σ H ⟨F, S, h1, h2, h3, kn⟩ => ?_
  refine ⟨F, S, fun v F1 H1 g1 u1 => ?_⟩
  have S1 := S.gr g1
  obtain ⟨w, ew, uw⟩ := S1.fz 0 _ h0
  have e0 : w = .ref x := uw.here
  subst e0
  have hx : ∀ {F' H' : Hp}, Bs E F' H' → F' x = none ∧ H' x = some (.ins C dx []) := fun {F' H'} bs => by
    refine ⟨?_, bs.k x _ h1 (by rw [h3]; exact fun z => nomatch z)⟩
    cases z : F' x with
    | none => rfl
    | some o =>
      rcases bs.n x o z with q | q
      · rw [h2] at q; cases q
      · rw [h1] at q; cases q
  obtain ⟨n1, m1⟩ := hx S1.bs
  refine ⟨.ref x, ew, x, C, dx, [], rfl, m1, T.cls, T.nt, by decide, ?_⟩
  have ev : v = .int t := u1.here
  subst ev
  have ex : Ex F1 (upd H1 x (.ins C dx (putF kTop (.int t) []))) := fun a o h => by
    rw [upd_ne (ne_of_none h n1)]
    exact S1.bs.s a o h
  have S2 := S1.reE hG ex
  refine ⟨_, F1, S2, fun v2 F2 H2 g2 u2 => ?_⟩
  have ev : v2 = .int b := u2.here
  subst ev
  have m2 : H2 x = some (.ins C dx [(kTop, .int t)]) := g2.k x _ (by rw [upd_same]; rfl) (fun z => nomatch z)
  refine ⟨.ref x, ew, x, C, dx, _, rfl, m2, T.cls, T.nb, by simp, ?_⟩
  refine kn _ _ ⟨by rw [upd_same]; rfl, fun a o ha h => ?_⟩
  rw [upd_ne ha]
  exact g2.k a o (by rw [upd_ne ha]; exact S1.bs.k a o h (by rw [h3]; exact fun z => nomatch z)) (fun z => nomatch z)
end
section
variable {P : Program} {w : World} {K : PySem.W.Frag} {mg : Str → Option Value} {base : Heap} {x qual : Str} {params : Arguments} {body : List Stmt} {scope : Scope} {dvs : List V} {kws : List (Str × V)} {f C : Addr} {fd : FuncData} {N ps : List Str} {k : Nat}
theorem fn_init (Fd : FunD K x qual params body scope dvs kws f fd) (S : FnScope N ps scope) (hl : ps.length = 3)
    (hb : ∀ (X : Cx) (E : En) (x dx : Addr) (t b : Int), (∃ cdv A outer s H E', X = cxOf CX0 P w K mg base N qual scope f cdv A outer s H E' ∧ Room k X.A) → Ht b → PSs X body (tSI E C x dx (qFs (Rat.divInt t b)) (G0 [IsC (.ref x), IsI t, IsI b] N.length))) :
    FnOk P w K mg base CX0 (k + 1) f fd ps (InitSp C) := by
  refine Fd.ok S (fun vs H Q E ⟨F, x, dx, t, b, e, _⟩ => by rw [e, hl]; rfl) (fun cdv A outer s H vs Q E hr ⟨F, x, dx, t, b, e, ok, n, m, hb', kq⟩ => ?_)
  subst e
  exact ⟨_, hb _ ⟨F, H, none⟩ x dx t b ⟨cdv, A, outer, s, H, E, rfl, hr⟩ hb', F, sat_start ok (.cons (fun _ _ => rfl) (.cons (fun _ _ => rfl) (.cons (fun _ _ => rfl) .nil))), m, n, rfl, fun σ' H' fin => kq H' fin⟩
end
/-! ### a slot of two kinds -/
theorem js_or {X : Cx} {E : En} {G : List Sl} {R1 R2 : V → Hp → Prop} {i : Nat} {st : List Stmt} {Rt : V → Hp → Hp → Prop} {N : List Sl → Prop} (h : G[i]? = some (.fz (fun v F => R1 v F ∨ R2 v F))) (h1 : ∀ v F F', R1 v F → Ex F F' → R1 v F') (h2 : ∀ v F F', R2 v F → Ex F F' → R2 v F')
    (k1 : PSs X st (tS E (G.set i (.fz R1)) Rt N)) (k2 : PSs X st (tS E (G.set i (.fz R2)) Rt N)) : PSs X st (tS E G Rt N) := by
  have k := js_open (α := Bool) (X := X) (E := E) (Rt := Rt) (N := N) (st := st) (P := fun _ => True) (R := fun b : Bool => if b = true then R1 else R2) (i := i) (G := G.set i (.fz (Som (fun _ => True) fun b : Bool => if b = true then R1 else R2)))
    (List.getElem?_set_self (List.getElem?_eq_some_iff.mp h).1) (fun b v F F' r e => by
      cases b with
      | true => exact h1 v F F' r e
      | false => exact h2 v F F' r e) (fun b _ => by
      rw [List.set_set]
      cases b with
      | true => exact k1
      | false => exact k2)
  refine js_weak ?_ k
  have all : ∀ (G : List Sl) (i : Nat), G[i]? = some (.fz (fun v F => R1 v F ∨ R2 v F)) → Paired Le G (G.set i (.fz (Som (fun _ => True) fun b : Bool => if b = true then R1 else R2))) := by
    intro G
    induction G with
    | nil => intro i h; simp at h
    | cons s G ih =>
      intro i h
      cases i with
      | zero =>
        simp at h
        subst h
        refine .cons (.fz fun v F q => q.elim (fun q => ⟨true, trivial, q⟩) fun q => ⟨false, trivial, q⟩) ?_
        clear ih
        induction G with
        | nil => exact .nil
        | cons s G ih => exact .cons (Le.rfl' s) ih
      | succ i => exact .cons (Le.rfl' s) (ih i (by simpa using h))
  exact all G i h
end Gw
set_option maxHeartbeats 4000000
namespace Gw
open PySem PySem.Spec PyProof.Rows L2

/-! ### defs by their names -/
def Kn (P : Program) (w : World) (K : PySem.W.Frag) (mg : Str → Option Value) (base : Heap) (x : Str) (k : Nat) (ps : List Str) (sp : Sp) : Prop :=
  ∃ (f : Addr) (fd : FuncData), mg x = some (.ref f) ∧ PySem.W.keepIn K (.ref f) = true ∧ Binds K fd ps [] ∧ FnOk P w K mg base CX0 k f fd ps sp
/-- natural numbers as ints -/
abbrev IsU (n : Nat) : V → Hp → Prop := IsI (n : Int)
section
variable {X : Cx} {E : En} {G : List Sl} {e a b c : Expr} {es : List Expr} {R R' Ra Rb Rz : V → Hp → Prop} {p pos apos : Pos} {ι : Type} {Rs : ι → List (V → Hp → Prop)} {pre : ι → Prop} {x : Str} {f : Addr} {fd : FuncData} {k : Nat} {ps : List Str}
variable {Rf : ι → V → Hp → Prop} {Rm : ι → List V → Hp → Prop}
theorem jc (T : Kn X.prog X.w X.K X.mg X.base x k ps (Pr Rs pre Rf)) (hr : Room k X.A) (w : ι) (ha : PA X (e :: es) (tA E G (Rs w))) (hp : pre w) (hR : Rf w = R := by exact rfl) (hg : Gl X x := by rfl) (hdb : (x == ("__debug__" : Str)) = false := by decide)
    (he : starEach (e :: es) X.env = (false, eval e X.env) :: starEach es X.env := by rfl) (hpl : (backTo pos (starEach es X.env)).any (·.1) = false := by rfl) : PE X (.Call (.Name x p) (e :: es) [] pos) (tE E G R) := by
  subst hR
  obtain ⟨f, fd, g, kp, b, ok⟩ := T
  exact je_f (E' := E0) w (pe_call ok hr hg g kp b .nil pass0 ha hdb he hpl) hp
theorem jcM {Rm' : List V → Hp → Prop} (T : Kn X.prog X.w X.K X.mg X.base x k ps (PrM Rs pre Rm)) (hr : Room k X.A) (w : ι) (ha : PA X (e :: es) (tA E G (Rs w))) (hp : pre w) (hR : Rm w = Rm' := by exact rfl) (hg : Gl X x := by rfl) (hdb : (x == ("__debug__" : Str)) = false := by decide)
    (he : starEach (e :: es) X.env = (false, eval e X.env) :: starEach es X.env := by rfl) (hpl : (backTo pos (starEach es X.env)).any (·.1) = false := by rfl) : PE X (.Call (.Name x p) (e :: es) [] pos) (tM E G Rm') := by
  subst hR
  obtain ⟨f, fd, g, kp, b, ok⟩ := T
  exact jm_f (E' := E0) w (pe_call ok hr hg g kp b .nil pass0 ha hdb he hpl) hp
theorem jcP (T : Kn X.prog X.w X.K X.mg X.base x k ps (PrP Rs pre Rf)) (hr : Room k X.A) (hpot : ∃ i : Nat, G[i]? = some .pot) (w : ι) (ha : PA X (e :: es) (tAP E G (Rs w))) (hp : pre w) (hR : Rf w = R := by exact rfl) (hg : Gl X x := by rfl) (hdb : (x == ("__debug__" : Str)) = false := by decide)
    (he : starEach (e :: es) X.env = (false, eval e X.env) :: starEach es X.env := by rfl) (hpl : (backTo pos (starEach es X.env)).any (·.1) = false := by rfl) : PE X (.Call (.Name x p) (e :: es) [] pos) (tE E G R) := by
  subst hR
  obtain ⟨f, fd, g, kp, b, ok⟩ := T
  exact je_fP (E' := E0) w hpot (pe_call ok hr hg g kp b .nil pass0 ha hdb he hpl) hp
theorem jcPM {Rm' : List V → Hp → Prop} (T : Kn X.prog X.w X.K X.mg X.base x k ps (PrPM Rs pre Rm)) (hr : Room k X.A) (hpot : ∃ i : Nat, G[i]? = some .pot) (w : ι) (ha : PA X (e :: es) (tAP E G (Rs w))) (hp : pre w) (hR : Rm w = Rm' := by exact rfl) (hg : Gl X x := by rfl) (hdb : (x == ("__debug__" : Str)) = false := by decide)
    (he : starEach (e :: es) X.env = (false, eval e X.env) :: starEach es X.env := by rfl) (hpl : (backTo pos (starEach es X.env)).any (·.1) = false := by rfl) : PE X (.Call (.Name x p) (e :: es) [] pos) (tM E G Rm') := by
  subst hR
  obtain ⟨f, fd, g, kp, b, ok⟩ := T
  exact jm_fP (E' := E0) w hpot (pe_call ok hr hg g kp b .nil pass0 ha hdb he hpl) hp
/-! ### names, constants -/
theorem pv (i : Nat) (hN : X.N[i]? = some x := by exact rfl) (hv : Vis X.env.scope x := by first | exact .inl rfl | exact .inr (.inl rfl) | exact .inr (.inr rfl)) (hd : (x == ("__debug__" : Str)) = false := by decide) (hcd : (x == ("__classdict__" : Str)) = false := by decide) : PE X (.Name x pos) (tVar i) := pe_var hN hv hd hcd
theorem jv (i : Nat) (h : G[i]? = some (.fz R) := by exact rfl) (hN : X.N[i]? = some x := by exact rfl) (hv : Vis X.env.scope x := by first | exact .inl rfl | exact .inr (.inl rfl) | exact .inr (.inr rfl)) (hd : (x == ("__debug__" : Str)) = false := by decide)
    (hcd : (x == ("__classdict__" : Str)) = false := by decide) : PE X (.Name x pos) (tE E G R) := je_var (pe_var hN hv hd hcd) h
theorem jI {i : Int} {j : Nat} : PE X (.Constant (.int i) j pos) (tE E G (IsI i)) := je_c pe_int fun _ => rfl
theorem jNon {j : Nat} : PE X (.Constant .none j pos) (tE E G IsN) := je_c pe_non fun _ => rfl
theorem jBl {b : Bool} {j : Nat} : PE X (.Constant (.bool b) j pos) (tE E G (IsB b)) := je_c pe_bl fun _ => rfl
theorem jglob {v : V} {u : Value} (hm : X.mg x = some u) (r : RelV v u) (hg : Gl X x := by rfl) (hd : (x == ("__debug__" : Str)) = false := by decide) : PE X (.Name x pos) (tE E G (IsC v)) := je_c (pe_glob hg hm r hd) fun _ => rfl
theorem jgI {i : Int} {t : Tok} (hm : X.mg x = some (.int i t)) (hg : Gl X x := by rfl) (hd : (x == ("__debug__" : Str)) = false := by decide) : PE X (.Name x pos) (tE E G (IsI i)) := je_c (pe_glob (v := .int i) hg hm ⟨_, rfl⟩ hd) fun _ => rfl
theorem jty {n : String} (hm : X.mg x = none) (hv : bootBuiltins x = some (.type n)) (hg : Gl X x := by rfl) (hn : x ≠ "__name__" := by decide) (hd : (x == ("__debug__" : Str)) = false := by decide) : PE X (.Name x pos) (tE E G (IsC (.ty n))) := je_c (pe_bltn (v := .ty n) hg hm hv rfl hn hd) fun _ => rfl
/-! ### built-in calls -/
theorem jbB {id : String} {r : List V → Hp → VK → Prop} {Ss : List (V → Hp → Prop)} (hc : CallR X (.builtin id) r) (hm : X.mg x = none) (hv : bootBuiltins x = some (.builtin id)) (ha : PA X (e :: es) (tA E G Ss)) (h : RC E.pp r Ss Rz) (hg : Gl X x := by rfl) (hn : x ≠ "__name__" := by decide) (hdb : (x == ("__debug__" : Str)) = false := by decide)
    (he : starEach (e :: es) X.env = (false, eval e X.env) :: starEach es X.env := by rfl) (hpl : (backTo pos (starEach es X.env)).any (·.1) = false := by rfl) : PE X (.Call (.Name x p) (e :: es) [] pos) (tE E G Rz) := je_cb (pe_callB hc hg hm hv ha hn hdb he hpl) h
theorem jbT {id : String} {r : List V → Hp → VK → Prop} {Ss : List (V → Hp → Prop)} (hc : CallR X (.type id) r) (hm : X.mg x = none) (hv : bootBuiltins x = some (.type id)) (ha : PA X (e :: es) (tA E G Ss)) (h : RC E.pp r Ss Rz) (hg : Gl X x := by rfl) (hn : x ≠ "__name__" := by decide) (hdb : (x == ("__debug__" : Str)) = false := by decide)
    (he : starEach (e :: es) X.env = (false, eval e X.env) :: starEach es X.env := by rfl) (hpl : (backTo pos (starEach es X.env)).any (·.1) = false := by rfl) : PE X (.Call (.Name x p) (e :: es) [] pos) (tE E G Rz) := je_cb (pe_callTy hc hg hm hv ha hn hdb he hpl) h
theorem jbF {id : String} {r : List V → Hp → VK → Prop} {Ss : List (V → Hp → Prop)} (hc : CallR X (.builtin id) r) (hm : X.mg x = some (.builtin id)) (ha : PA X (e :: es) (tA E G Ss)) (h : RC E.pp r Ss Rz) (hg : Gl X x := by rfl) (hdb : (x == ("__debug__" : Str)) = false := by decide)
    (he : starEach (e :: es) X.env = (false, eval e X.env) :: starEach es X.env := by rfl) (hpl : (backTo pos (starEach es X.env)).any (·.1) = false := by rfl) : PE X (.Call (.Name x p) (e :: es) [] pos) (tE E G Rz) := je_cb (pe_callBfun hc hg hm ha hdb he hpl) h
/-! ### subscripts -/
theorem rop_ixB {α : Type} [Inhabited α] {K : PySem.W.Frag} {pp : Option Addr} {Rx : α → V → Hp → Prop} {xs : List α} {j : Nat} (h : j < xs.length) : ROp pp (rIxL K) (IsL Rx xs) (IsI (j : Int)) (Rx xs[j]!) := rop_ixL (j := j) (x := xs[j]!) (by rw [getElem!_pos xs j h, List.getElem?_eq_getElem h])
/-! ### targets -/
theorem gN (i : Nat) (hN : X.N.Nodup) (hi : X.N[i]? = some x := by exact rfl) (hx : Loc X.env.scope x := by first | exact .inl rfl | exact .inr rfl) (hf : X.fn x = true ∨ X.env.scope.names.lookup x = some .local := by first | exact .inl rfl | exact .inr rfl) : PG X (.Name x pos) (gName i) := pg_name hN hi hx hf
theorem jg1 (i : Nat) (hN : X.N.Nodup) (hi : X.N[i]? = some x := by exact rfl) (hx : Loc X.env.scope x := by first | exact .inl rfl | exact .inr rfl) (hf : X.fn x = true ∨ X.env.scope.names.lookup x = some .local := by first | exact .inl rfl | exact .inr rfl) : PG X (.Name x pos) (tG E R [i] (fun G => G.set i (.fz R))) := jg_name (pg_name hN hi hx hf)
theorem jg2 (i j : Nat) {y : Str} {p2 : Pos} {kk : Nat} (hN : X.N.Nodup) (hc : X.calm = true := by rfl) (hi : X.N[i]? = some x := by exact rfl) (hj : X.N[j]? = some y := by exact rfl) (hx : Loc X.env.scope x := by first | exact .inl rfl | exact .inr rfl) (hf : X.fn x = true ∨ X.env.scope.names.lookup x = some .local := by first | exact .inl rfl | exact .inr rfl)
    (hx2 : Loc X.env.scope y := by first | exact .inl rfl | exact .inr rfl) (hf2 : X.fn y = true ∨ X.env.scope.names.lookup y = some .local := by first | exact .inl rfl | exact .inr rfl) :
    PG X (.Tuple [.Name x p, .Name y p2] kk pos) (tG E (IsTp [Ra, Rb]) [i, j] (fun G => (G.set i (.fz Ra)).set j (.fz Rb))) := jg_tup2 (pg_tup hc (pgs_cons (pg_name hN hi hx hf) (pgs_cons (pg_name hN hj hx2 hf2) pgs_nil)))
theorem jg3 (i j l : Nat) {y z : Str} {p2 p3 : Pos} {kk : Nat} {Rc : V → Hp → Prop} (hN : X.N.Nodup) (hc : X.calm = true := by rfl) (hi : X.N[i]? = some x := by exact rfl) (hj : X.N[j]? = some y := by exact rfl) (hl : X.N[l]? = some z := by exact rfl) (hx : Loc X.env.scope x := by first | exact .inl rfl | exact .inr rfl) (hf : X.fn x = true ∨ X.env.scope.names.lookup x = some .local := by first | exact .inl rfl | exact .inr rfl)
    (hx2 : Loc X.env.scope y := by first | exact .inl rfl | exact .inr rfl) (hf2 : X.fn y = true ∨ X.env.scope.names.lookup y = some .local := by first | exact .inl rfl | exact .inr rfl) (hx3 : Loc X.env.scope z := by first | exact .inl rfl | exact .inr rfl) (hf3 : X.fn z = true ∨ X.env.scope.names.lookup z = some .local := by first | exact .inl rfl | exact .inr rfl) :
    PG X (.Tuple [.Name x p, .Name y p2, .Name z p3] kk pos) (tG E (IsTp [Ra, Rb, Rc]) [i, j, l] (fun G => ((G.set i (.fz Ra)).set j (.fz Rb)).set l (.fz Rc))) := jg_tup3 (pg_tup hc (pgs_cons (pg_name hN hi hx hf) (pgs_cons (pg_name hN hj hx2 hf2) (pgs_cons (pg_name hN hl hx3 hf3) pgs_nil))))
/-! ### what is walked, by natural numbers -/
def enumN {α : Type} (xs : List α) : List (Nat × α) := xs.zipIdx.map fun p => (p.2, p.1)
theorem enumN_get {α : Type} {xs : List α} {i : Nat} {q : Nat × α} (h : (enumN xs)[i]? = some q) : q.1 = i ∧ xs[i]? = some q.2 := by
  unfold enumN at h
  rw [List.getElem?_map, List.getElem?_zipIdx] at h
  cases e : xs[i]? with
  | none => rw [e] at h; cases h
  | some x =>
    rw [e] at h
    cases h
    exact ⟨by simp, rfl⟩
theorem enumN_len {α : Type} (xs : List α) : (enumN xs).length = xs.length := by simp [enumN]
theorem jiM {α β : Type} {Rx : α → V → Hp → Prop} {Ry : β → V → Hp → Prop} {xs : List α} {ys : List β} {tg : Expr} (h : PI X tg e (tI E G Rx xs)) (hl : xs.length = ys.length) (hc : ∀ (i : Nat) (x : α) (y : β), xs[i]? = some x → ys[i]? = some y → ∀ v F, Rx x v F → Ry y v F) : PI X tg e (tI E G Ry ys) := PI_imp h fun σ H Rj ⟨F, S, k⟩ =>
  ⟨F, S, fun J F' H' g src => k J F' H' g ⟨fun i F1 H1 hi => src.go i F1 H1 (by omega), fun F1 H1 => by rw [← hl]; exact src.stop F1 H1, fun i y F1 H1 v H2 hy e1 o z => by
    have hi : i < xs.length := by rw [hl]; exact (List.getElem?_eq_some_iff.mp hy).1
    obtain ⟨F2, g2, u⟩ := src.yld i xs[i] F1 H1 v H2 (List.getElem?_eq_getElem hi) e1 o z
    exact ⟨F2, g2, u.imp (fun F q => hc i xs[i] y (List.getElem?_eq_getElem hi) hy v F q)⟩⟩⟩
theorem ji_rangeN {n : Nat} {tg : Expr} (hn : n < 2 ^ 62) (p : PI X tg e (iRng1 (tA E G [IsI n]))) : PI X tg e (tI E G IsU (List.range n)) := jiM (ji_range hn p) (by simp [upTo]) fun i x y h1 h2 v F q => by
  obtain ⟨rfl, hi⟩ := upTo_get h1
  rw [List.getElem?_range hi] at h2
  cases h2
  exact q
theorem isTp_imp {Rs Rs' : List (V → Hp → Prop)} (h : Paired (fun R R' => ∀ v F, R v F → R' v F) Rs Rs') : ∀ v F, IsTp Rs v F → IsTp Rs' v F := fun v F ⟨a, vs, e, ha, u⟩ => ⟨a, vs, e, ha, u.imp fun F q => by
  have all : ∀ {Rs Rs' : List (V → Hp → Prop)} {vs : List V}, Paired (fun R R' => ∀ v F, R v F → R' v F) Rs Rs' → Paired (fun R v => Up R v F) Rs vs → Paired (fun R v => Up R v F) Rs' vs := by
    intro Rs Rs' vs h
    induction h generalizing vs with
    | nil => intro q; exact q
    | cons r t ih =>
      intro q
      cases q with
      | cons r2 t2 => exact .cons (r2.imp fun F z => r _ F z) (ih t2)
  exact all h q⟩
theorem ji_enumN {α : Type} {Rx : α → V → Hp → Prop} {xs : List α} {K : PySem.W.Frag} {tg : Expr} (p : PI X tg e (iEnum K (tA E G [IsL Rx xs]))) : PI X tg e (tI E G (fun q : Nat × α => IsTp [IsU q.1, Rx q.2]) (enumN xs)) := jiM (ji_enum p) (by rw [enumL_len, enumN_len]) fun i q r h1 h2 v F z => by
  obtain ⟨a1, a2⟩ := enumL_get h1
  obtain ⟨b1, b2⟩ := enumN_get h2
  rw [a2] at b2
  have e2 : q.2 = r.2 := Option.some.inj b2
  have e1 : q.1 = (r.1 : Int) := by rw [a1, b1]
  rw [← e2]
  show IsTp [IsI (r.1 : Int), Rx q.2] v F
  rw [← e1]
  exact z
theorem mem_enumN {α : Type} {xs : List α} {q : Nat × α} (h : q ∈ enumN xs) : q.1 < xs.length ∧ xs[q.1]? = some q.2 := by
  obtain ⟨i, hi⟩ := List.getElem?_of_mem h
  obtain ⟨h1, h2⟩ := enumN_get hi
  subst h1
  exact ⟨(List.getElem?_eq_some_iff.mp h2).1, h2⟩
end
/-! ### comprehensions, also stored by one line -/
section
variable {X : Cx} {E : En} {G : List Sl} {pos : Pos} {α β : Type} {Rx : α → V → Hp → Prop} {xs : List α} {Ry : β → V → Hp → Prop} {tg iter elt : Expr} {ifs : List Expr} {scope : Scope} {own : List (Str × Nat)} {idx : List Nat} {f : α → List Sl → List Sl}
theorem js_setLc {i : Nat} {y : Str} {py spos : Pos} {Rt : V → Hp → Hp → Prop} (pr : α → Bool) (g : α → β)
    (hc : X.calm = true) (hN : X.N.Nodup) (hy : X.N[i]? = some y) (hyl : X.env.scope.names.lookup y = some .local) (hsw : swapsWith (.ListComp elt [⟨tg, iter, ifs, 0⟩] scope pos) (some (.Name y py)) spos.line X.env = pure true)
    (hi : PI X tg iter (tI E G Rx xs)) (ok : BlkOk X.N X.env.scope scope own) (hidx : ∀ k ∈ idx, k ∈ own.map (·.2))
    (hg : ∀ (s : Shared) (H : Hp) (C : Addr) (cl : List (Str × Addr)) (fp : List Addr) (x : α), PG (X.blk s H scope (compEnvC scope cl C X.env) fp) tg (tG E (Rx x) idx (f x)))
    (ht : ∀ (s : Shared) (H : Hp) (C : Addr) (cl : List (Str × Addr)) (fp : List Addr) (x : α), x ∈ xs → PTs (X.blk s H scope (compEnvC scope cl C X.env) fp) ifs (tT E (f x (wipeG G (own.map (·.2)))) (pr x)))
    (he : ∀ (s : Shared) (H : Hp) (C : Addr) (cl : List (Str × Addr)) (fp : List Addr) (x : α), x ∈ xs → pr x = true → PE (X.blk s H scope (compEnvC scope cl C X.env) fp) elt (tE E (f x (wipeG G (own.map (·.2)))) (Ry (g x))))
    (hz : xs.length < sizeLine) (hs : ∀ x, foldedSetIterable iter X.env x = pure x := by intro _; rfl) :
    PS X (.Assign [.Name y py] (.ListComp elt [⟨tg, iter, ifs, 0⟩] scope pos) spos) (tS E G Rt (· = G.set i (.mt (LsOf Ry ((xs.filter pr).map g))))) := by
  have P := ps_setLc (i := i) hc hN hy hyl hsw hi ok (g := fun v σ H Q => ∃ x, tG E (Rx x) idx (f x) v σ H Q) (tt := fun σ H Q => ∃ q : { x // x ∈ xs }, tT E (f q.1 (wipeG G (own.map (·.2)))) (pr q.1) σ H Q)
    (te := fun σ H Q => ∃ q : { x // x ∈ xs ∧ pr x = true }, tE E (f q.1 (wipeG G (own.map (·.2)))) (Ry (g q.1)) σ H Q)
    (fun s H C cl fp => ⟨fun pins s' σ H' v u Q I r ⟨x, h⟩ => (hg s H C cl fp x).run pins s' σ H' v u Q I r h⟩) (fun s H C cl fp => PTs_any fun q => ht s H C cl fp q.1 q.2) (fun s H C cl fp => PE_any fun q => he s H C cl fp q.1 q.2.1 q.2.2) hs
  refine js_setM (Rm := LsOf Ry ((xs.filter pr).map g)) (PS_imp P fun D σ H hw => ?_)
  revert hw
  show tM E G (LsOf Ry ((xs.filter pr).map g)) σ H (fun v H1 => gName i v σ H1 D.nx) → tLc _ _ _ _ _ σ H (fun v H1 => gName i v σ H1 D.nx)
  exact lc_read pr g hidx hz
end
/-! ### what is known of the class -/
section
variable (P : Program) (w : World) (K : PySem.W.Frag) (mg : Str → Option Value) (base : Heap) (C : Addr)
def Mkr (k : Nat) : Prop := mg "Ratio" = some (.ref C) ∧ ∃ (f : Addr) (fd : FuncData) (ds : List Value), Mk K C f ∧ FnOk P w K mg base CX0 k f fd ["self", "top", "bottom"] (InitSp C) ∧ Binds K fd ["self", "top", "bottom"] [] ∧ Vals [V.int 1] ds ∧ Binds K fd ["self", "top", "bottom"] ds
abbrev spq (C : Addr) (pre : Rat × Rat → Prop) (fn : Rat → Rat → Rat) : Sp := Pr (qA C) pre (fun w => IsQ C (fn w.1 w.2))
def Opr (op : Operator) (k : Nat) (pre : Rat × Rat → Prop) (fn : Rat → Rat → Rat) : Prop := ∃ (f g : Addr) (fd : FuncData), OwnI K C f g op ∧ FnOk P w K mg base CX0 k f fd ["self", "other"] (spq C pre fn) ∧ Binds K fd ["self", "other"] []
def OprR (op : Operator) (k : Nat) (pre : Rat × Rat → Prop) (fn : Rat → Rat → Rat) : Prop := ∃ (f g : Addr) (fd : FuncData), OwnI K C f g op ∧ FnOk P w K mg base CX0 k g fd ["self", "other"] (spq C pre fn) ∧ Binds K fd ["self", "other"] []
abbrev spEqQ (C : Addr) : Sp := Pr (qE C) (fun _ => True) (fun w => IsB (decide (w.1 = w.2)))
def EqK (k : Nat) : Prop := ∃ (f : Addr) (fd : FuncData), PySem.W.findIn K (.ref C) "__eq__" = some (some (.ref f)) ∧ PySem.W.isFn K (.ref f) = true ∧ PySem.W.findIn K (.ref C) "__ne__" = some (some (.builtin "object.__ne__")) ∧ PySem.W.subIn K (.ref C) (.type "object") = some true ∧
  FnOk P w K mg base CX0 k f fd ["self", "other"] (spEqQ C) ∧ Binds K fd ["self", "other"] []
def PropK (x : Str) (k : Nat) (sp : Sp) : Prop := ∃ (p g : Addr) (fd : FuncData), Cls K C ∧ PropOf K C x p g ∧ FnOk P w K mg base CX0 k g fd ["self"] sp ∧ Binds K fd ["self"] []
def MethK (m : Str) (k : Nat) (ps : List Str) (sp : Sp) : Prop := ∃ (f : Addr) (fd : FuncData), Cls K C ∧ Meth K C m f ∧ FnOk P w K mg base CX0 k f fd ps sp ∧ Binds K fd ps []
def CmK (m : Str) (k : Nat) (sp : Sp) : Prop := ∃ (mc : Value) (p g : Addr), ClX.CRead K C mc ∧ ClX.CMet K C mc m p g ∧ FnR P w K mg base CX0 k g sp
end
section
variable {X : Cx} {E : En} {G : List Sl} {e o a b c : Expr} {es : List Expr} {p pos apos : Pos} {C : Addr} {k : Nat} {q r : Rat} {pre : Rat × Rat → Prop} {fn : Rat → Rat → Rat} {op : Operator} {R : V → Hp → Prop}
theorem jmk1 {t : Int} (T : Mkr X.prog X.w X.K X.mg X.base C k) (hr : Room (k + 1) X.A) (ha : PA X [e] (tA E G [IsI t])) (hg : Gl X "Ratio" := by rfl) (he : starEach [e] X.env = (false, eval e X.env) :: starEach [] X.env := by rfl) : PE X (.Call (.Name "Ratio" p) [e] [] pos) (tE E G (IsQ C (t : Rat))) := by
  obtain ⟨g, f, fd, ds, M, ok, b0, hd, b1⟩ := T
  exact je_make1 (E' := E0) (pe_make M ok hr hg g b1 hd pass0 ha (by decide) he (by rfl))
theorem jmk2 {t u : Int} (T : Mkr X.prog X.w X.K X.mg X.base C k) (hr : Room (k + 1) X.A) (ha : PA X [e, o] (tA E G [IsI t, IsI u])) (hb : Ht u) (hg : Gl X "Ratio" := by rfl) (he : starEach [e, o] X.env = (false, eval e X.env) :: starEach [o] X.env := by rfl)
    (hpl : (backTo pos (starEach [o] X.env)).any (·.1) = false := by rfl) : PE X (.Call (.Name "Ratio" p) [e, o] [] pos) (tE E G (IsQ C (Rat.divInt t u))) := by
  obtain ⟨g, f, fd, ds, M, ok, b0, hd, b1⟩ := T
  exact je_make2 (E' := E0) (pe_make M ok hr hg g b0 .nil pass0 ha (by decide) he hpl) hb
theorem joQ (T : Opr X.prog X.w X.K X.mg X.base C op k pre fn) (hr : Room k X.A) (ha : PE X a (tE E G (IsQ C q))) (hb : PE X b (tE E G (IsQ C r))) (hp : pre (q, r)) (hR : IsQ C (fn q r) = R := by exact rfl) : PE X (.BinOp a op b pos) (tE E G R) := by
  subst hR
  obtain ⟨f, g, fd, O, ok, bd⟩ := T
  exact je_op (pe_op (op_own (E' := E0) O.toOwnB ok hr bd) ha hb) (rop_own (Rf := fun w => IsQ C (fn w.1 w.2)) hp)
theorem joQI {i : Int} (T : Opr X.prog X.w X.K X.mg X.base C op k pre fn) (hr : Room k X.A) (ha : PE X a (tE E G (IsQ C q))) (hb : PE X b (tE E G (IsI i))) (hp : pre (q, (i : Rat))) (hR : IsQ C (fn q (i : Rat)) = R := by exact rfl) : PE X (.BinOp a op b pos) (tE E G R) := by
  subst hR
  obtain ⟨f, g, fd, O, ok, bd⟩ := T
  exact je_op (pe_op (op_ownI (E' := E0) O ok hr bd) ha hb) (rop_ownI (Rf := fun w => IsQ C (fn w.1 w.2)) hp)
theorem joIQ_sub {i : Int} (T : OprR X.prog X.w X.K X.mg X.base C .Sub k pre fn) (hr : Room k X.A) (ha : PE X a (tE E G (IsI i))) (hb : PE X b (tE E G (IsQ C q))) (hp : pre (q, (i : Rat))) (hR : IsQ C (fn q (i : Rat)) = R := by exact rfl) : PE X (.BinOp a .Sub b pos) (tE E G R) := by
  subst hR
  obtain ⟨f, g, fd, O, ok, bd⟩ := T
  exact je_op (pe_op (op_Iown (E' := E0) O (fun A E s i t b dx h => decl_sub A E s i t b dx h) F.fills_int_sub ok hr bd) ha hb) (rop_Iown (Rf := fun w => IsQ C (fn w.1 w.2)) hp)
theorem joIQ_mul {i : Int} (T : OprR X.prog X.w X.K X.mg X.base C .Mult k pre fn) (hr : Room k X.A) (ha : PE X a (tE E G (IsI i))) (hb : PE X b (tE E G (IsQ C q))) (hp : pre (q, (i : Rat))) (hR : IsQ C (fn q (i : Rat)) = R := by exact rfl) : PE X (.BinOp a .Mult b pos) (tE E G R) := by
  subst hR
  obtain ⟨f, g, fd, O, ok, bd⟩ := T
  exact je_op (pe_op (op_Iown (E' := E0) O (fun A E s i t b dx h => decl_mul A E s i t b dx h) F.fills_int_mul ok hr bd) ha hb) (rop_Iown (Rf := fun w => IsQ C (fn w.1 w.2)) hp)
theorem joIQ_add {i : Int} (T : OprR X.prog X.w X.K X.mg X.base C .Add k pre fn) (hr : Room k X.A) (ha : PE X a (tE E G (IsI i))) (hb : PE X b (tE E G (IsQ C q))) (hp : pre (q, (i : Rat))) (hR : IsQ C (fn q (i : Rat)) = R := by exact rfl) : PE X (.BinOp a .Add b pos) (tE E G R) := by
  subst hR
  obtain ⟨f, g, fd, O, ok, bd⟩ := T
  exact je_op (pe_op (op_Iown (E' := E0) O (fun A E s i t b dx h => decl_add A E s i t b dx h) F.fills_int_add ok hr bd) ha hb) (rop_Iown (Rf := fun w => IsQ C (fn w.1 w.2)) hp)
theorem jeqQ (T : EqK X.prog X.w X.K X.mg X.base C k) (hr : Room k X.A) (ha : PE X a (tE E G (IsQ C q))) (hb : PE X b (tE E G (IsQ C r))) : PE X (.Compare a [.Eq] [b] pos) (tE E G (IsB (decide (q = r)))) := by
  obtain ⟨f, fd, h1, h2, h3, h4, ok, bd⟩ := T
  exact je_op (pe_cmpR (op_eqOwn (E' := E0) h1 h2 ok hr bd) ha hb (nomark _)) rop_eqQ
theorem jneQ (T : EqK X.prog X.w X.K X.mg X.base C k) (hr : Room (k + 1) X.A) (ha : PE X a (tE E G (IsQ C q))) (hb : PE X b (tE E G (IsQ C r))) : PT X (.Compare a [.NotEq] [b] pos) (tT E G (!decide (q = r))) := by
  obtain ⟨f, fd, h1, h2, h3, h4, ok, bd⟩ := T
  exact jt_cmp (pt_cmpR (op_neOwn (E' := E0) h1 h2 h3 h4 ok hr bd) ha hb (nomark _)) rop_neQ
theorem jteqQ (T : EqK X.prog X.w X.K X.mg X.base C k) (hr : Room k X.A) (ha : PE X a (tE E G (IsQ C q))) (hb : PE X b (tE E G (IsQ C r))) : PT X (.Compare a [.Eq] [b] pos) (tT E G (decide (q = r))) := by
  obtain ⟨f, fd, h1, h2, h3, h4, ok, bd⟩ := T
  exact jt_cmp (pt_cmpR (op_eqOwn (E' := E0) h1 h2 ok hr bd) ha hb (nomark _)) rop_eqQ
variable {ι : Type} {Rs : ι → List (V → Hp → Prop)} {pr : ι → Prop} {Rg : ι → V → Hp → Prop} {x m : Str} {ps : List Str}
theorem jprop (T : PropK X.prog X.w X.K X.mg X.base C x k (Pr Rs pr Rg)) (hr : Room (k + 1) X.A) (w : ι) (ha : PE X e (tE E G (IsQ C q))) (hw : Rs w = [IsQ C q] := by rfl) (hp : pr w) (hR : Rg w = R := by exact rfl) (hab : attributeBase e x X.env (eval e X.env) = eval e X.env := by rfl) : PE X (.Attribute e x pos) (tE E G R) := by
  subst hR
  obtain ⟨p, g, fd, c, h, ok, bd⟩ := T
  exact je_prop (E' := E0) w (pe_prop ha c h ok hr bd .nil (fun _ _ _ _ _ _ _ h => h.elim) hab) hw hp
theorem jmeth {Rl : List (V → Hp → Prop)} {pl : Sem Bool} (T : MethK X.prog X.w X.K X.mg X.base C m k ps (Pr Rs pr Rg)) (hr : Room k X.A) (w : ι) (ho : PE X o (tE E G (IsQ C q))) (ha : PA X (e :: es) (tA E G Rl)) (hw : Rs w = IsQ C q :: Rl) (hp : pr w) (hR : Rg w = R := by exact rfl) (h1 : (m == kTop) = false := by decide) (h2 : (m == kBot) = false := by decide)
    (hst : starEach (e :: es) X.env = (false, eval e X.env) :: starEach es X.env := by rfl) (hpl : (backTo pos (starEach es X.env)).any (·.1) = false := by rfl)
    (ht : eval (.Call (.Attribute o m apos) (e :: es) [] pos) X.env = (do
      let ov ← eval o X.env
      standAt apos.atName
      let (f, first) ← holding [ov] (getMethod ov m pl)
      callWith pos f first (backTo pos (starEach (e :: es) X.env)) (backToKw pos (keywordEach [] X.env))) := by rfl) : PE X (.Call (.Attribute o m apos) (e :: es) [] pos) (tE E G R) := by
  subst hR
  obtain ⟨f, fd, c, h, ok, bd⟩ := T
  exact je_meth (E' := E0) w (pe_meth (pl := pl) ho c h ok hr bd .nil pass0 ha hst hpl ht) hw hp h1 h2
theorem jcm {Rl : List (V → Hp → Prop)} {pl : Sem Bool} (T : CmK X.prog X.w X.K X.mg X.base C m k (Pr Rs pr Rg)) (hr : Room k X.A) (w : ι) (hgl : Gl X x) (hmg : X.mg x = some (.ref C)) (ha : PA X (e :: es) (tA E G Rl)) (hw : Rs w = IsC (.ref C) :: Rl) (hp : pr w) (hR : Rg w = R := by exact rfl) (hdb : (x == ("__debug__" : Str)) = false := by decide)
    (hst : starEach (e :: es) X.env = (false, eval e X.env) :: starEach es X.env := by rfl) (hpl : (backTo pos (starEach es X.env)).any (·.1) = false := by rfl)
    (ht : eval (.Call (.Attribute (.Name x p) m apos) (e :: es) [] pos) X.env = (do
      let ov ← eval (.Name x p) X.env
      standAt apos.atName
      let (f, first) ← holding [ov] (getMethod ov m pl)
      callWith pos f first (backTo pos (starEach (e :: es) X.env)) (backToKw pos (keywordEach [] X.env))) := by rfl) : PE X (.Call (.Attribute (.Name x p) m apos) (e :: es) [] pos) (tE E G R) := by
  subst hR
  obtain ⟨mc, p', g, c, h, ok⟩ := T
  exact je_cmeth (E' := E0) w (ClX.pe_cmeth (pl := pl) (pe_glob (v := .ref C) hgl hmg rfl hdb) c h ok hr pass0 ha hst hpl ht) hw hp
end
section
variable {X : Cx} {E : En} {G : List Sl} {pos : Pos} {α β : Type} {Rx : α → V → Hp → Prop} {xs : List α} {Ry : β → V → Hp → Prop} {tg iter elt : Expr} {ifs : List Expr} {scope : Scope} {own : List (Str × Nat)} {idx : List Nat} {f : α → List Sl → List Sl}
theorem jts_nil : PTs X [] (tT E G true) := ⟨fun pins s σ H Q I ⟨F, S, k⟩ => pts_nil.run pins s σ H Q I (k F H S.refl)⟩
theorem jts_one {c : Expr} {b : Bool} (h : PT X c (tT E G b)) : PTs X [c] (tT E G b) := pts_one h
theorem filter_true {α : Type} (xs : List α) : xs.filter (fun _ => true) = xs := by
  induction xs with
  | nil => rfl
  | cons x xs ih => rw [List.filter_cons, if_pos rfl, ih]
/-- [elt for tg in iter] -/
theorem jlc {Rm : List V → Hp → Prop} (g : α → β) (own : List (Str × Nat)) (hN : X.N.Nodup) (hi : PI X tg iter (tI E G Rx xs))
    (hg : ∀ (s : Shared) (H : Hp) (C : Addr) (cl : List (Str × Addr)) (fp : List Addr) (x : α), PG (X.blk s H scope (compEnvC scope cl C X.env) fp) tg (tG E (Rx x) idx (f x)))
    (he : ∀ (s : Shared) (H : Hp) (C : Addr) (cl : List (Str × Addr)) (fp : List Addr) (x : α), x ∈ xs → PE (X.blk s H scope (compEnvC scope cl C X.env) fp) elt (tE E (f x (wipeG G (own.map (·.2)))) (Ry (g x))))
    (hz : xs.length < sizeLine) (hR : LsOf Ry (xs.map g) = Rm := by exact rfl) (ok : blkC X.N X.env.scope scope own = true := by kernel_rfl) (hc : X.calm = true := by rfl) (hidx : ∀ k ∈ idx, k ∈ own.map (·.2) := by decide) (hs : ∀ x, foldedSetIterable iter X.env x = pure x := by intro _; rfl) :
    PE X (.ListComp elt [⟨tg, iter, [], 0⟩] scope pos) (tM E G Rm) := by
  subst hR
  have h := jm_lc (X := X) (pos := pos) (fun _ => true) g hc hN hi (blkOk_by ok) hidx hg (fun s H C cl fp x hx => jts_nil) (fun s H C cl fp x hx _ => he s H C cl fp x hx) hz hs
  rwa [filter_true] at h
/-- name = [elt for tg in iter], the name a local -/
theorem jslc {i : Nat} {y : Str} {py spos : Pos} {Rt : V → Hp → Hp → Prop} (g : α → β) (own : List (Str × Nat)) (hN : X.N.Nodup) (hi : PI X tg iter (tI E G Rx xs))
    (hg : ∀ (s : Shared) (H : Hp) (C : Addr) (cl : List (Str × Addr)) (fp : List Addr) (x : α), PG (X.blk s H scope (compEnvC scope cl C X.env) fp) tg (tG E (Rx x) idx (f x)))
    (he : ∀ (s : Shared) (H : Hp) (C : Addr) (cl : List (Str × Addr)) (fp : List Addr) (x : α), x ∈ xs → PE (X.blk s H scope (compEnvC scope cl C X.env) fp) elt (tE E (f x (wipeG G (own.map (·.2)))) (Ry (g x))))
    (hz : xs.length < sizeLine) (hy : X.N[i]? = some y := by exact rfl) (hyl : X.env.scope.names.lookup y = some .local := by exact rfl) (hsw : swapsWith (.ListComp elt [⟨tg, iter, [], 0⟩] scope pos) (some (.Name y py)) spos.line X.env = pure true := by exact sw_true rfl rfl rfl (by decide +kernel))
    (ok : blkC X.N X.env.scope scope own = true := by kernel_rfl) (hc : X.calm = true := by rfl) (hidx : ∀ k ∈ idx, k ∈ own.map (·.2) := by decide) (hs : ∀ x, foldedSetIterable iter X.env x = pure x := by intro _; rfl) :
    PS X (.Assign [.Name y py] (.ListComp elt [⟨tg, iter, [], 0⟩] scope pos) spos) (tS E G Rt (· = G.set i (.mt (LsOf Ry (xs.map g))))) := by
  have h := js_setLc (X := X) (E := E) (G := G) (pos := pos) (spos := spos) (py := py) (i := i) (Rt := Rt) (fun _ => true) g hc hN hy hyl hsw hi (blkOk_by ok) hidx hg (fun s H C cl fp x hx => jts_nil) (fun s H C cl fp x hx _ => he s H C cl fp x hx) hz hs
  rwa [filter_true] at h
end
/-! ### lists or tuples of anything -/
def IsAL (v : V) (F : Hp) : Prop := ∃ a vs, v = .ref a ∧ F a = some (.lst vs)
def IsAT (v : V) (F : Hp) : Prop := ∃ a vs, v = .ref a ∧ F a = some (.tup vs)
def IsLT (v : V) (F : Hp) : Prop := IsAL v F ∨ IsAT v F
theorem lst_al {R : List V → Hp → Prop} : ∀ v F, LstOf R v F → IsAL v F := fun v F ⟨a, vs, e, h, _⟩ => ⟨a, vs, e, h⟩
theorem tup_at {R : List V → Hp → Prop} : ∀ v F, TupOf R v F → IsAT v F := fun v F ⟨a, vs, e, h, _⟩ => ⟨a, vs, e, h⟩
theorem lst_lt {R : List V → Hp → Prop} : ∀ v F, LstOf R v F → IsLT v F := fun v F h => .inl (lst_al v F h)
theorem tup_lt {R : List V → Hp → Prop} : ∀ v F, TupOf R v F → IsLT v F := fun v F h => .inr (tup_at v F h)
theorem sq_lt {α : Type} {R : α → V → Hp → Prop} {xs : List α} : ∀ v F, IsSq R xs v F → IsLT v F := fun v F h => h.elim (lst_lt v F) (tup_lt v F)
theorem isi_al {K : PySem.W.Frag} {pp : Option Addr} {b : Bool} {cs : List V} {us : List Value} {Rz' : List (V → Hp → Prop)} (hc : Paired ClsV cs us) (hk : PySem.W.kitAny K (.type "list") us = some b) (hl : cs.map IsC = Rz' := by rfl) : RC pp (rIsiT K) [IsAL, TupOf (Args Rz')] (IsB b) := rc_isiT (t := .type "list") hc hk (fun v F H e ⟨a, vs, ev, h⟩ => by
  subst ev
  exact .base (.lst (e _ _ h))) hl
theorem isi_at {K : PySem.W.Frag} {pp : Option Addr} {b : Bool} {cs : List V} {us : List Value} {Rz' : List (V → Hp → Prop)} (hc : Paired ClsV cs us) (hk : PySem.W.kitAny K (.type "tuple") us = some b) (hl : cs.map IsC = Rz' := by rfl) : RC pp (rIsiT K) [IsAT, TupOf (Args Rz')] (IsB b) := rc_isiT (t := .type "tuple") hc hk (fun v F H e ⟨a, vs, ev, h⟩ => by
  subst ev
  exact .base (.tup (e _ _ h))) hl
theorem isi_at1 {K : PySem.W.Frag} {pp : Option Addr} : RC pp (rIsi K) [IsAT, IsC (.ty "tuple")] (IsB true) := rc_isi (t := .type "tuple") (.ty "tuple") (kit_ty (by decide +kernel)) fun v F H e ⟨a, vs, ev, h⟩ => by
  subst ev
  exact .base (.tup (e _ _ h))
theorem js_frz {X : Cx} {E : En} {G : List Sl} {i : Nat} {R : List V → Hp → Prop} {st : List Stmt} {Rt : V → Hp → Hp → Prop} {N : List Sl → Prop} (hG : G[i]? = some (.mt R)) (k : PSs X st (tS E (G.set i (.fz (LstOf R))) Rt N)) : PSs X st (tS E G Rt N) := PSs_imp k fun D σ H ⟨F, S, kn, kr⟩ => by
  obtain ⟨p, vs, e, h1, h2, h3, h4, S'⟩ := S.freeze hG
  exact ⟨_, S', fun G' σ' F' H' n S2 ex => kn G' σ' F' H' n S2 ((Ex.new h1).trans ex), kr⟩
end Gw
set_option maxHeartbeats 4000000
/-! The head's facts, with functions found by a path (a property's getter, a classmethod's def) and one more Bool. -/
namespace Gw
open PySem PySem.Spec PyProof.Rows L2 He
def fnWa (K : PySem.W.Frag) (a : Addr) : FnW := match K.lookup a with
  | some ⟨_, _, .func fd, _⟩ => some (fd.name, fd.qualname, fd.params, fd.body, fd.scope, fd.globals, fd.closure, fd.builtins)
  | _ => none
structure DefA where
  path : PySem.W.Frag → Addr
  name : Str
  qual : Str
  params : Arguments
  body : List Stmt
  scope : Scope
def DefA.val (d : DefA) : FnW := some (d.name, d.qual, d.params, .stmts d.body, d.scope, mainGlobals, [], builtinsNs)
def DefA.ok (K : PySem.W.Frag) (d : DefA) : Bool := PySem.W.keepIn K (.ref (d.path K)) && (match K.lookup (d.path K) with
  | some ⟨_, _, .func fd, _⟩ => PySem.W.codeIn K fd.code d.qual && (dflB K fd.defaults [] && kwdB K fd.kwdefaults [])
  | _ => false)
theorem DefA.funD {K : PySem.W.Frag} {d : DefA} (e : fnWa K (d.path K) = d.val) (c : d.ok K = true) : ∃ fd, FunD K d.name d.qual d.params d.body d.scope [] [] (d.path K) fd := by
  obtain ⟨kp, c2⟩ := ba c
  unfold fnWa at e
  cases q : K.lookup (d.path K) with
  | none =>
    rw [q] at c2
    cases c2
  | some o =>
    obtain ⟨oc, od, dt, osl⟩ := o
    rw [q] at c2 e
    cases dt with
    | func fd =>
      obtain ⟨n1, n2, n3, n4, n5, n6, n7, n8, n9, n10, n11, n12, n13, n14, n15⟩ := fd
      have e2 : (some (n1, n2, n3, n4, n5, n6, n7, n15) : FnW) = some (d.name, d.qual, d.params, .stmts d.body, d.scope, mainGlobals, [], builtinsNs) := e
      simp only [Option.some.injEq, Prod.mk.injEq] at e2
      obtain ⟨h1, h2, h3, h4, h5, h6, h7, h8⟩ := e2
      subst h1 h2 h3 h4 h5 h6 h7 h8
      have c3 : (PySem.W.codeIn K n13 d.qual && (dflB K n8 [] && kwdB K n9 [])) = true := c2
      obtain ⟨k1, k2⟩ := ba c3
      obtain ⟨k3, k4⟩ := ba k2
      exact ⟨_, ⟨oc, od, n8, n9, n10, n11, n12, n13, n14, osl, rfl, q, k1, dflB_ok k3, kwdB_ok k4⟩, kp⟩
    | _ => cases c2
abbrev AlG : Type := AlD × Bool × List FnW
def obsA (fa : List Fa) (fn : List DefD) (da : List DefA) (ex : PySem.W.Frag → Bool) (K : PySem.W.Frag) : AlG := (obsD fa fn K, ex K && da.all fun d => d.ok K, da.map fun d => fnWa K (d.path K))
def valA (fn : List DefD) (da : List DefA) : AlG := (valD fn, true, da.map DefA.val)
def SaysA (fa : List Fa) (fn : List DefD) (da : List DefA) (ex : PySem.W.Frag → Bool) (K : PySem.W.Frag) : Prop := obsA fa fn da ex K = valA fn da
def obsAG (n : Nat) (fa : List Fa) (fn : List DefD) (da : List DefA) (ex : PySem.W.Frag → Bool) (g : Addr → Option Obj) : AlG := obsA fa fn da ex (frG g (List.range n))
def hookA (n : Nat) (fa : List Fa) (fn : List DefD) (da : List DefA) (ex : PySem.W.Frag → Bool) : PySem.W.Hook where
  α := AlG
  obs := fun s => obsAG n fa fn da ex s.heap.get?
  val := fun _ => valA fn da
  says := fun _ h => ∃ K : PySem.W.Frag, K.In h ∧ SaysA fa fn da ex K
  of := fun _ _ e => ⟨_, frG_in, e⟩
  keeps := fun _ _ _ ⟨K, hK, c⟩ k => ⟨K, PySem.W.Frag.In.keeps hK k, c⟩
theorem obsAG_eq {n : Nat} {fa : List Fa} {fn : List DefD} {da : List DefA} {ex : PySem.W.Frag → Bool} {g : Addr → Option Obj} {s : Shared} (h : ∀ a, g a = s.heap.get? a) : obsAG n fa fn da ex g = (hookA n fa fn da ex).obs s := by
  have e : g = s.heap.get? := funext h
  rw [e] <;> rfl
section
variable {fa : List Fa} {fn : List DefD} {da : List DefA} {ex : PySem.W.Frag → Bool} {K : PySem.W.Frag}
theorem SaysA.d (c : SaysA fa fn da ex K) : SaysD fa fn K := congrArg (fun z : AlG => z.1) c
theorem SaysA.x (c : SaysA fa fn da ex K) : ex K = true := (ba (show (ex K && da.all fun d => d.ok K) = true from congrArg (fun z : AlG => z.2.1) c)).1
theorem SaysA.a (c : SaysA fa fn da ex K) (i : Nat) {d : DefA} (h : da[i]? = some d := by rfl) : ∃ fd, FunD K d.name d.qual d.params d.body d.scope [] [] (d.path K) fd := by
  have c2 := (ba (show (ex K && da.all fun d => d.ok K) = true from congrArg (fun z : AlG => z.2.1) c)).2
  have e : da.map (fun d => fnWa K (d.path K)) = da.map DefA.val := congrArg (fun z : AlG => z.2.2) c
  have e2 : (da.map fun d => fnWa K (d.path K))[i]? = (da.map DefA.val)[i]? := by rw [e]
  rw [List.getElem?_map, List.getElem?_map, h] at e2
  exact DefA.funD (Option.some.inj e2) (List.all_eq_true.mp c2 d (List.mem_of_getElem? h))
end
/-! ### facts of the class Ratio -/
def recAd (K : PySem.W.Frag) (p : Addr) (T : String) : Addr := match PySem.W.recIn K p T with
  | some (.ref g :: _) => g
  | _ => 0
def recB (K : PySem.W.Frag) (p : Addr) (T : String) : Bool := match PySem.W.recIn K p T with
  | some (.ref _ :: _) => true
  | _ => false
theorem rec_ok {K : PySem.W.Frag} {p : Addr} {T : String} (h : recB K p T = true) : ∃ rest, PySem.W.recIn K p T = some (.ref (recAd K p T) :: rest) := by
  unfold recB at h
  unfold recAd
  cases e : PySem.W.recIn K p T with
  | none => rw [e] at h; cases h
  | some l =>
    rw [e] at h
    cases l with
    | nil => cases h
    | cons v r =>
      cases v with
      | ref g => exact ⟨r, rfl⟩
      | _ => cases h
def cRat (K : PySem.W.Frag) : Addr := ga K "Ratio"
def xGlo (K : PySem.W.Frag) : Bool := eqO (PySem.W.nsIn K mainGlobals "gcd") (some (some (.builtin "math.gcd"))) && eqO (PySem.W.nsIn K mainGlobals "lcm") (some (some (.builtin "math.lcm")))
def xRat (K : PySem.W.Frag) : Bool := eqO (PySem.W.findIn K (.ref (cRat K)) "__class__") (some (some (.builtin "object.__class__"))) && (eqO (PySem.W.specialIn K (.builtin "object.__class__") "__get__") (some (some (.builtin "getset_descriptor.__get__"))) &&
  (decide (PySem.W.takesIn K (.builtin "object.__class__") = some true) && (decide (PySem.W.mroIn K (cRat K) (.type "object") = some true) && (decide (PySem.W.kitOne K (.ref (cRat K)) (.ref (cRat K)) = some true) &&
  (decide (PySem.W.kitOne K (.type "int") (.ref (cRat K)) = some false) && decide (PySem.W.kitOne K (.ref (cRat K)) (.type "int") = some false))))))
def xOp (K : PySem.W.Frag) (op : Operator) (m r : Str) : Bool := PySem.W.selfFirst K (cRat K) && (eqO (PySem.W.findIn K (.ref (cRat K)) (PySem.dunder op.info.2)) (some (some (.ref (ma K (cRat K) m)))) && (PySem.W.isFn K (.ref (ma K (cRat K) m)) &&
  (eqO (PySem.W.findIn K (.ref (cRat K)) (dunderR op.info.2)) (some (some (.ref (ma K (cRat K) r)))) && (PySem.W.isFn K (.ref (ma K (cRat K) r)) && ((PySem.W.findIn K (.type "int") (PySem.dunder op.info.2)).isSome && ((PySem.W.findIn K (.type "int") (dunderR op.info.2)).isSome &&
  (decide (PySem.W.subIn K (.type "int") (.ref (cRat K)) = some false) && decide (PySem.W.subIn K (.ref (cRat K)) (.type "int") = some false))))))))
def xEq (K : PySem.W.Frag) : Bool := eqO (PySem.W.findIn K (.ref (cRat K)) "__eq__") (some (some (.ref (ma K (cRat K) "__eq__")))) && (PySem.W.isFn K (.ref (ma K (cRat K) "__eq__")) && (eqO (PySem.W.findIn K (.ref (cRat K)) "__ne__") (some (some (.builtin "object.__ne__"))) && decide (PySem.W.subIn K (.ref (cRat K)) (.type "object") = some true)))
def xProp (K : PySem.W.Frag) (m : Str) : Bool := eqO (PySem.W.findIn K (.ref (cRat K)) m) (some (some (.ref (ma K (cRat K) m)))) && (eqO (PySem.W.specialIn K (.ref (ma K (cRat K) m)) "__get__") (some (some (.builtin "property.__get__"))) && (decide (PySem.W.takesIn K (.ref (ma K (cRat K) m)) = some true) && recB K (ma K (cRat K) m) "property"))
def xCm (K : PySem.W.Frag) (m : Str) : Bool := PySem.W.readsIn K (cRat K) (.type "type") && (eqO (PySem.W.specialIn K (.ref (cRat K)) "__getattribute__") (some (some (.builtin "type.__getattribute__"))) && ((match PySem.W.findCls K (.ref (cRat K)) (.type "type") m with
  | some (.get g p o c) => decide (g = .builtin "classmethod.__get__") && (decide (p = .ref (ma K (cRat K) m)) && (decide (o = .none) && decide (c = .ref (cRat K))))
  | _ => false) && (recB K (ma K (cRat K) m) "classmethod" && PySem.W.fnIn K (recAd K (ma K (cRat K) m) "classmethod"))))
section
variable {K : PySem.W.Frag}
theorem op_ok {op : Operator} {m r : Str} (h : xOp K op m r = true) : OwnI K (cRat K) (ma K (cRat K) m) (ma K (cRat K) r) op := by
  obtain ⟨h1, h⟩ := ba h
  obtain ⟨h2, h⟩ := ba h
  obtain ⟨h3, h⟩ := ba h
  obtain ⟨h4, h⟩ := ba h
  obtain ⟨h5, h⟩ := ba h
  obtain ⟨h6, h⟩ := ba h
  obtain ⟨h7, h⟩ := ba h
  obtain ⟨h8, h9⟩ := ba h
  exact { sf := h1, at_ := eqO_ok h2, fn := h3, rat := eqO_ok h4, gn := h5, i1 := Option.isSome_iff_exists.mp h6, i2 := Option.isSome_iff_exists.mp h7, s1 := of_decide_eq_true h8, s2 := of_decide_eq_true h9 }
theorem eq_ok (h : xEq K = true) : PySem.W.findIn K (.ref (cRat K)) "__eq__" = some (some (.ref (ma K (cRat K) "__eq__"))) ∧ PySem.W.isFn K (.ref (ma K (cRat K) "__eq__")) = true ∧ PySem.W.findIn K (.ref (cRat K)) "__ne__" = some (some (.builtin "object.__ne__")) ∧ PySem.W.subIn K (.ref (cRat K)) (.type "object") = some true := by
  obtain ⟨h1, h⟩ := ba h
  obtain ⟨h2, h⟩ := ba h
  obtain ⟨h3, h4⟩ := ba h
  exact ⟨eqO_ok h1, h2, eqO_ok h3, of_decide_eq_true h4⟩
theorem prop_ok {m : Str} (h : xProp K m = true) : PropOf K (cRat K) m (ma K (cRat K) m) (recAd K (ma K (cRat K) m) "property") := by
  obtain ⟨h1, h⟩ := ba h
  obtain ⟨h2, h⟩ := ba h
  obtain ⟨h3, h4⟩ := ba h
  exact ⟨eqO_ok h1, eqO_ok h2, of_decide_eq_true h3, rec_ok h4⟩
theorem cm_ok {m : Str} (h : xCm K m = true) : ClX.CRead K (cRat K) (.type "type") ∧ ClX.CMet K (cRat K) (.type "type") m (ma K (cRat K) m) (recAd K (ma K (cRat K) m) "classmethod") := by
  obtain ⟨h1, h⟩ := ba h
  obtain ⟨h2, h⟩ := ba h
  obtain ⟨h3, h⟩ := ba h
  obtain ⟨h4, h5⟩ := ba h
  refine ⟨⟨h1, eqO_ok h2⟩, ⟨?_, rec_ok h4, h5⟩⟩
  cases e : PySem.W.findCls K (.ref (cRat K)) (.type "type") m with
  | none => rw [e] at h3; cases h3
  | some r =>
    rw [e] at h3
    cases r with
    | get g p o c =>
      obtain ⟨a1, h3⟩ := ba h3
      obtain ⟨a2, h3⟩ := ba h3
      obtain ⟨a3, a4⟩ := ba h3
      rw [of_decide_eq_true a1, of_decide_eq_true a2, of_decide_eq_true a3, of_decide_eq_true a4]
    | _ => cases h3
theorem rat_ok (h : xRat K = true) (hc : Cls K (cRat K)) (ht : NoAttr K (cRat K) kTop) (hb : NoAttr K (cRat K) kBot) : RatF K (cRat K) := by
  obtain ⟨h1, h⟩ := ba h
  obtain ⟨h2, h⟩ := ba h
  obtain ⟨h3, h⟩ := ba h
  obtain ⟨h4, h⟩ := ba h
  obtain ⟨h5, h⟩ := ba h
  obtain ⟨h6, h7⟩ := ba h
  exact ⟨hc, ht, hb, eqO_ok h1, eqO_ok h2, of_decide_eq_true h3, of_decide_eq_true h4, of_decide_eq_true h5, of_decide_eq_true h6, of_decide_eq_true h7⟩
end
end Gw
set_option maxHeartbeats 4000000
namespace Gw
open PySem PySem.Spec PyProof.Rows L2

abbrev prg : Program := PySem.Challenge.pw_walkworths_k84_whole_less_spread_guesses
def top (i : Nat) : Stmt := prg.main.body.getD i (.Pass ⟨0, 0, 0, 0⟩)
def mth (i j : Nat) : Stmt := match top i with
  | .ClassDef _ _ _ b _ _ _ _ _ _ _ => b.getD j (.Pass ⟨0, 0, 0, 0⟩)
  | _ => .Pass ⟨0, 0, 0, 0⟩
abbrev FnP (K : PySem.W.Frag) (x : Str) (st : Stmt) (f : Addr) (fd : FuncData) : Prop := FunD K x x (defArgs st) (defBody st) (defScope st) [] [] f fd
abbrev FnM (K : PySem.W.Frag) (x q : Str) (st : Stmt) (f : Addr) (fd : FuncData) : Prop := FunD K x q (defArgs st) (defBody st) (defScope st) [] [] f fd

abbrev st__wall : Stmt := top 1
abbrev N__wall : List Str := ["k"]
theorem sc__wall : FnScope N__wall ["k"] (defScope st__wall) := ⟨rfl, rfl, rfl, by decide +kernel, rfl, by decide +kernel, by decide +kernel⟩
abbrev st_is_integer : Stmt := top 17
abbrev N_is_integer : List Str := ["value"]
theorem sc_is_integer : FnScope N_is_integer ["value"] (defScope st_is_integer) := ⟨rfl, rfl, rfl, by decide +kernel, rfl, by decide +kernel, by decide +kernel⟩
abbrev st_is_list : Stmt := top 18
abbrev N_is_list : List Str := ["value"]
theorem sc_is_list : FnScope N_is_list ["value"] (defScope st_is_list) := ⟨rfl, rfl, rfl, by decide +kernel, rfl, by decide +kernel, by decide +kernel⟩
abbrev st_want_at_most : Stmt := top 19
abbrev N_want_at_most : List Str := ["what", "limit", "number"]
theorem sc_want_at_most : FnScope N_want_at_most ["what", "limit", "number"] (defScope st_want_at_most) := ⟨rfl, rfl, rfl, by decide +kernel, rfl, by decide +kernel, by decide +kernel⟩
abbrev st_digits_of : Stmt := top 22
abbrev N_digits_of : List Str := ["number", "left", "told", "part", "sign"]
theorem sc_digits_of : FnScope N_digits_of ["number"] (defScope st_digits_of) := ⟨rfl, rfl, rfl, by decide +kernel, rfl, by decide +kernel, by decide +kernel⟩
abbrev st_divisor_of : Stmt := top 23
abbrev N_divisor_of : List Str := ["one", "other"]
theorem sc_divisor_of : FnScope N_divisor_of ["one", "other"] (defScope st_divisor_of) := ⟨rfl, rfl, rfl, by decide +kernel, rfl, by decide +kernel, by decide +kernel⟩
abbrev st_R__init__ : Stmt := mth 24 0
abbrev N_R__init__ : List Str := ["self", "top", "bottom", "common"]
theorem sc_R__init__ : FnScope N_R__init__ ["self", "top", "bottom"] (defScope st_R__init__) := ⟨rfl, rfl, rfl, by decide +kernel, rfl, by decide +kernel, by decide +kernel⟩
abbrev st_Rtop : Stmt := mth 24 1
abbrev N_Rtop : List Str := ["self"]
theorem sc_Rtop : FnScope N_Rtop ["self"] (defScope st_Rtop) := ⟨rfl, rfl, rfl, by decide +kernel, rfl, by decide +kernel, by decide +kernel⟩
abbrev st_Rbottom : Stmt := mth 24 2
abbrev N_Rbottom : List Str := ["self"]
theorem sc_Rbottom : FnScope N_Rbottom ["self"] (defScope st_Rbottom) := ⟨rfl, rfl, rfl, by decide +kernel, rfl, by decide +kernel, by decide +kernel⟩
abbrev st_Rsign : Stmt := mth 24 3
abbrev N_Rsign : List Str := ["self"]
theorem sc_Rsign : FnScope N_Rsign ["self"] (defScope st_Rsign) := ⟨rfl, rfl, rfl, by decide +kernel, rfl, by decide +kernel, by decide +kernel⟩
abbrev st_Ris_whole : Stmt := mth 24 4
abbrev N_Ris_whole : List Str := ["self"]
theorem sc_Ris_whole : FnScope N_Ris_whole ["self"] (defScope st_Ris_whole) := ⟨rfl, rfl, rfl, by decide +kernel, rfl, by decide +kernel, by decide +kernel⟩
abbrev st_Rtotal : Stmt := mth 24 5
abbrev N_Rtotal : List Str := ["cls", "numbers", "number"]
theorem sc_Rtotal : FnScope N_Rtotal ["cls", "numbers"] (defScope st_Rtotal) := ⟨rfl, rfl, rfl, by decide +kernel, rfl, by decide +kernel, by decide +kernel⟩
abbrev st_R__add__ : Stmt := mth 24 6
abbrev N_R__add__ : List Str := ["self", "other", "top", "bottom"]
theorem sc_R__add__ : FnScope N_R__add__ ["self", "other"] (defScope st_R__add__) := ⟨rfl, rfl, rfl, by decide +kernel, rfl, by decide +kernel, by decide +kernel⟩
abbrev st_R__radd__ : Stmt := mth 24 7
abbrev N_R__radd__ : List Str := ["self", "other", "top", "bottom"]
theorem sc_R__radd__ : FnScope N_R__radd__ ["self", "other"] (defScope st_R__radd__) := ⟨rfl, rfl, rfl, by decide +kernel, rfl, by decide +kernel, by decide +kernel⟩
abbrev st_R__sub__ : Stmt := mth 24 8
abbrev N_R__sub__ : List Str := ["self", "other", "top", "bottom"]
theorem sc_R__sub__ : FnScope N_R__sub__ ["self", "other"] (defScope st_R__sub__) := ⟨rfl, rfl, rfl, by decide +kernel, rfl, by decide +kernel, by decide +kernel⟩
abbrev st_R__rsub__ : Stmt := mth 24 9
abbrev N_R__rsub__ : List Str := ["self", "other", "top", "bottom"]
theorem sc_R__rsub__ : FnScope N_R__rsub__ ["self", "other"] (defScope st_R__rsub__) := ⟨rfl, rfl, rfl, by decide +kernel, rfl, by decide +kernel, by decide +kernel⟩
abbrev st_R__mul__ : Stmt := mth 24 10
abbrev N_R__mul__ : List Str := ["self", "other", "top", "bottom"]
theorem sc_R__mul__ : FnScope N_R__mul__ ["self", "other"] (defScope st_R__mul__) := ⟨rfl, rfl, rfl, by decide +kernel, rfl, by decide +kernel, by decide +kernel⟩
abbrev st_R__rmul__ : Stmt := mth 24 11
abbrev N_R__rmul__ : List Str := ["self", "other", "top", "bottom"]
theorem sc_R__rmul__ : FnScope N_R__rmul__ ["self", "other"] (defScope st_R__rmul__) := ⟨rfl, rfl, rfl, by decide +kernel, rfl, by decide +kernel, by decide +kernel⟩
abbrev st_R__neg__ : Stmt := mth 24 12
abbrev N_R__neg__ : List Str := ["self"]
theorem sc_R__neg__ : FnScope N_R__neg__ ["self"] (defScope st_R__neg__) := ⟨rfl, rfl, rfl, by decide +kernel, rfl, by decide +kernel, by decide +kernel⟩
abbrev st_Rover : Stmt := mth 24 13
abbrev N_Rover : List Str := ["self", "other", "top", "bottom"]
theorem sc_Rover : FnScope N_Rover ["self", "other"] (defScope st_Rover) := ⟨rfl, rfl, rfl, by decide +kernel, rfl, by decide +kernel, by decide +kernel⟩
abbrev st_Rsize : Stmt := mth 24 14
abbrev N_Rsize : List Str := ["self"]
theorem sc_Rsize : FnScope N_Rsize ["self"] (defScope st_Rsize) := ⟨rfl, rfl, rfl, by decide +kernel, rfl, by decide +kernel, by decide +kernel⟩
abbrev st_Ris_below : Stmt := mth 24 15
abbrev N_Ris_below : List Str := ["self", "other", "top", "bottom"]
theorem sc_Ris_below : FnScope N_Ris_below ["self", "other"] (defScope st_Ris_below) := ⟨rfl, rfl, rfl, by decide +kernel, rfl, by decide +kernel, by decide +kernel⟩
abbrev st_Ris_at_most : Stmt := mth 24 16
abbrev N_Ris_at_most : List Str := ["self", "other", "top", "bottom"]
theorem sc_Ris_at_most : FnScope N_Ris_at_most ["self", "other"] (defScope st_Ris_at_most) := ⟨rfl, rfl, rfl, by decide +kernel, rfl, by decide +kernel, by decide +kernel⟩
abbrev st_R__eq__ : Stmt := mth 24 17
abbrev N_R__eq__ : List Str := ["self", "other"]
theorem sc_R__eq__ : FnScope N_R__eq__ ["self", "other"] (defScope st_R__eq__) := ⟨rfl, rfl, rfl, by decide +kernel, rfl, by decide +kernel, by decide +kernel⟩
abbrev st_R__str__ : Stmt := mth 24 18
abbrev N_R__str__ : List Str := ["self"]
theorem sc_R__str__ : FnScope N_R__str__ ["self"] (defScope st_R__str__) := ⟨rfl, rfl, rfl, by decide +kernel, rfl, by decide +kernel, by decide +kernel⟩
abbrev st_R__repr__ : Stmt := mth 24 19
abbrev N_R__repr__ : List Str := ["self"]
theorem sc_R__repr__ : FnScope N_R__repr__ ["self"] (defScope st_R__repr__) := ⟨rfl, rfl, rfl, by decide +kernel, rfl, by decide +kernel, by decide +kernel⟩
abbrev st_told_pair : Stmt := top 25
abbrev N_told_pair : List Str := ["value"]
theorem sc_told_pair : FnScope N_told_pair ["value"] (defScope st_told_pair) := ⟨rfl, rfl, rfl, by decide +kernel, rfl, by decide +kernel, by decide +kernel⟩
abbrev st_is_number : Stmt := top 26
abbrev N_is_number : List Str := ["value"]
theorem sc_is_number : FnScope N_is_number ["value"] (defScope st_is_number) := ⟨rfl, rfl, rfl, by decide +kernel, rfl, by decide +kernel, by decide +kernel⟩
abbrev st_ratio_of : Stmt := top 27
abbrev N_ratio_of : List Str := ["number"]
theorem sc_ratio_of : FnScope N_ratio_of ["number"] (defScope st_ratio_of) := ⟨rfl, rfl, rfl, by decide +kernel, rfl, by decide +kernel, by decide +kernel⟩
abbrev st_want_number : Stmt := top 28
abbrev N_want_number : List Str := ["value"]
theorem sc_want_number : FnScope N_want_number ["value"] (defScope st_want_number) := ⟨rfl, rfl, rfl, by decide +kernel, rfl, by decide +kernel, by decide +kernel⟩
abbrev st_wholes : Stmt := top 29
abbrev N_wholes : List Str := ["ratios", "bottom", "ratio"]
theorem sc_wholes : FnScope N_wholes ["ratios"] (defScope st_wholes) := ⟨rfl, rfl, rfl, by decide +kernel, rfl, by decide +kernel, by decide +kernel⟩
abbrev st_total_of : Stmt := top 30
abbrev N_total_of : List Str := ["ratios", "found", "ratio"]
theorem sc_total_of : FnScope N_total_of ["ratios"] (defScope st_total_of) := ⟨rfl, rfl, rfl, by decide +kernel, rfl, by decide +kernel, by decide +kernel⟩
abbrev st_ints_of : Stmt := top 32
abbrev N_ints_of : List Str := ["rows", "row"]
theorem sc_ints_of : FnScope N_ints_of ["rows"] (defScope st_ints_of) := ⟨rfl, rfl, rfl, by decide +kernel, rfl, by decide +kernel, by decide +kernel⟩
abbrev st_bare_row : Stmt := top 33
abbrev N_bare_row : List Str := ["row", "common", "number"]
theorem sc_bare_row : FnScope N_bare_row ["row"] (defScope st_bare_row) := ⟨rfl, rfl, rfl, by decide +kernel, rfl, by decide +kernel, by decide +kernel⟩
abbrev st_cleared : Stmt := top 34
abbrev N_cleared : List Str := ["row", "head", "place", "far", "near"]
theorem sc_cleared : FnScope N_cleared ["row", "head", "place"] (defScope st_cleared) := ⟨rfl, rfl, rfl, by decide +kernel, rfl, by decide +kernel, by decide +kernel⟩
abbrev st_first_at : Stmt := top 35
abbrev N_first_at : List Str := ["rows", "place", "at", "row"]
theorem sc_first_at : FnScope N_first_at ["rows", "place"] (defScope st_first_at) := ⟨rfl, rfl, rfl, by decide +kernel, rfl, by decide +kernel, by decide +kernel⟩
abbrev st_headed_row : Stmt := top 36
abbrev N_headed_row : List Str := ["row", "place", "found", "number"]
theorem sc_headed_row : FnScope N_headed_row ["row", "place"] (defScope st_headed_row) := ⟨rfl, rfl, rfl, by decide +kernel, rfl, by decide +kernel, by decide +kernel⟩
abbrev st_int_steps : Stmt := top 37
abbrev N_int_steps : List Str := ["rows", "left", "found", "place", "at", "head", "others", "row"]
theorem sc_int_steps : FnScope N_int_steps ["rows"] (defScope st_int_steps) := ⟨rfl, rfl, rfl, by decide +kernel, rfl, by decide +kernel, by decide +kernel⟩
abbrev st_head_of : Stmt := top 38
abbrev N_head_of : List Str := ["row", "place"]
theorem sc_head_of : FnScope N_head_of ["row"] (defScope st_head_of) := ⟨rfl, rfl, rfl, by decide +kernel, rfl, by decide +kernel, by decide +kernel⟩
abbrev st_told_rows : Stmt := top 39
abbrev N_told_rows : List Str := ["steps_now", "found", "row", "head", "number"]
theorem sc_told_rows : FnScope N_told_rows ["steps_now"] (defScope st_told_rows) := ⟨rfl, rfl, rfl, by decide +kernel, rfl, by decide +kernel, by decide +kernel⟩
abbrev st_steps_of : Stmt := top 40
abbrev N_steps_of : List Str := ["rows"]
theorem sc_steps_of : FnScope N_steps_of ["rows"] (defScope st_steps_of) := ⟨rfl, rfl, rfl, by decide +kernel, rfl, by decide +kernel, by decide +kernel⟩
abbrev st_are_numbers : Stmt := top 44
abbrev N_are_numbers : List Str := ["value", "many", "number"]
theorem sc_are_numbers : FnScope N_are_numbers ["value", "many"] (defScope st_are_numbers) := ⟨rfl, rfl, rfl, by decide +kernel, rfl, by decide +kernel, by decide +kernel⟩
abbrev st_is_table_of : Stmt := top 45
abbrev N_is_table_of : List Str := ["value", "many", "row"]
theorem sc_is_table_of : FnScope N_is_table_of ["value", "many"] (defScope st_is_table_of) := ⟨rfl, rfl, rfl, by decide +kernel, rfl, by decide +kernel, by decide +kernel⟩
abbrev st_told_table : Stmt := top 46
abbrev N_told_table : List Str := ["value", "number", "row"]
theorem sc_told_table : FnScope N_told_table ["value"] (defScope st_told_table) := ⟨rfl, rfl, rfl, by decide +kernel, rfl, by decide +kernel, by decide +kernel⟩
abbrev st_are_chances : Stmt := top 48
abbrev N_are_chances : List Str := ["row", "number"]
theorem sc_are_chances : FnScope N_are_chances ["row"] (defScope st_are_chances) := ⟨rfl, rfl, rfl, by decide +kernel, rfl, by decide +kernel, by decide +kernel⟩
abbrev st_want_proposal : Stmt := top 49
abbrev N_want_proposal : List Str := ["value", "rows", "row"]
theorem sc_want_proposal : FnScope N_want_proposal ["value"] (defScope st_want_proposal) := ⟨rfl, rfl, rfl, by decide +kernel, rfl, by decide +kernel, by decide +kernel⟩
abbrev st_want_weights : Stmt := top 50
abbrev N_want_weights : List Str := ["places", "value", "told", "number"]
theorem sc_want_weights : FnScope N_want_weights ["places", "value"] (defScope st_want_weights) := ⟨rfl, rfl, rfl, by decide +kernel, rfl, by decide +kernel, by decide +kernel⟩
abbrev st_is_part : Stmt := top 53
abbrev N_is_part : List Str := ["value", "number"]
theorem sc_is_part : FnScope N_is_part ["value"] (defScope st_is_part) := ⟨rfl, rfl, rfl, by decide +kernel, rfl, by decide +kernel, by decide +kernel⟩
abbrev st_guess_in : Stmt := top 54
abbrev N_guess_in : List Str := ["value", "found", "chance", "far", "near", "part", "worth"]
theorem sc_guess_in : FnScope N_guess_in ["value"] (defScope st_guess_in) := ⟨rfl, rfl, rfl, by decide +kernel, rfl, by decide +kernel, by decide +kernel⟩
abbrev st_want_guess : Stmt := top 55
abbrev N_want_guess : List Str := ["value", "found"]
theorem sc_want_guess : FnScope N_want_guess ["value"] (defScope st_want_guess) := ⟨rfl, rfl, rfl, by decide +kernel, rfl, by decide +kernel, by decide +kernel⟩
abbrev st_above : Stmt := top 56
abbrev N_above : List Str := ["guess", "number", "chance", "worth"]
theorem sc_above : FnScope N_above ["guess", "number"] (defScope st_above) := ⟨rfl, rfl, rfl, by decide +kernel, rfl, by decide +kernel, by decide +kernel⟩
abbrev st_is_hinge_of : Stmt := top 57
abbrev N_is_hinge_of : List Str := ["guess", "other", "number"]
theorem sc_is_hinge_of : FnScope N_is_hinge_of ["guess", "other", "number"] (defScope st_is_hinge_of) := ⟨rfl, rfl, rfl, by decide +kernel, rfl, by decide +kernel, by decide +kernel⟩
abbrev st_hinge_of : Stmt := top 58
abbrev N_hinge_of : List Str := ["guess", "other", "chance", "worth"]
theorem sc_hinge_of : FnScope N_hinge_of ["guess", "other"] (defScope st_hinge_of) := ⟨rfl, rfl, rfl, by decide +kernel, rfl, by decide +kernel, by decide +kernel⟩
abbrev st_is_less_spread : Stmt := top 59
abbrev N_is_less_spread : List Str := ["guess", "other", "near", "far"]
theorem sc_is_less_spread : FnScope N_is_less_spread ["guess", "other"] (defScope st_is_less_spread) := ⟨rfl, rfl, rfl, by decide +kernel, rfl, by decide +kernel, by decide +kernel⟩
abbrev st_want_guesses : Stmt := top 62
abbrev N_want_guesses : List Str := ["places", "value", "found", "guess"]
theorem sc_want_guesses : FnScope N_want_guesses ["places", "value"] (defScope st_want_guesses) := ⟨rfl, rfl, rfl, by decide +kernel, rfl, by decide +kernel, by decide +kernel⟩
abbrev st_standings_of : Stmt := top 63
abbrev N_standings_of : List Str := ["guesses", "found", "place", "guess", "chance", "worth"]
theorem sc_standings_of : FnScope N_standings_of ["guesses"] (defScope st_standings_of) := ⟨rfl, rfl, rfl, by decide +kernel, rfl, by decide +kernel, by decide +kernel⟩
abbrev st_flow_between : Stmt := top 64
abbrev N_flow_between : List Str := ["rows", "weights", "near", "far", "here", "there"]
theorem sc_flow_between : FnScope N_flow_between ["rows", "weights", "near", "far"] (defScope st_flow_between) := ⟨rfl, rfl, rfl, by decide +kernel, rfl, by decide +kernel, by decide +kernel⟩
abbrev st_flows_of_standings : Stmt := top 65
abbrev N_flows_of_standings : List Str := ["rows", "weights", "standings", "found", "at", "near", "row", "spot", "far"]
theorem sc_flows_of_standings : FnScope N_flows_of_standings ["rows", "weights", "standings"] (defScope st_flows_of_standings) := ⟨rfl, rfl, rfl, by decide +kernel, rfl, by decide +kernel, by decide +kernel⟩
abbrev st_is_joined : Stmt := top 66
abbrev N_is_joined : List Str := ["flows", "met", "late", "at", "more", "flow", "spot"]
theorem sc_is_joined : FnScope N_is_joined ["flows"] (defScope st_is_joined) := ⟨rfl, rfl, rfl, by decide +kernel, rfl, by decide +kernel, by decide +kernel⟩
abbrev st_worths_ahead : Stmt := top 67
abbrev N_worths_ahead : List Str := ["flows", "goals", "many", "rows", "at", "flow", "row", "found", "number", "head", "ahead", "goal", "one"]
theorem sc_worths_ahead : FnScope N_worths_ahead ["flows", "goals"] (defScope st_worths_ahead) := ⟨rfl, rfl, rfl, by decide +kernel, rfl, by decide +kernel, by decide +kernel⟩
abbrev st_table_of_standings : Stmt := top 68
abbrev N_table_of_standings : List Str := ["weights", "standings", "flows", "total", "shares", "goals", "place", "share", "aheads", "found", "row", "spot", "ahead", "both", "goal", "one", "weight", "worth"]
theorem sc_table_of_standings : FnScope N_table_of_standings ["weights", "standings", "flows"] (defScope st_table_of_standings) := ⟨rfl, rfl, rfl, by decide +kernel, rfl, by decide +kernel, by decide +kernel⟩
abbrev st_guessed_table : Stmt := top 69
abbrev N_guessed_table : List Str := ["proposal", "weights", "guesses", "rows", "told", "standings", "flows"]
theorem sc_guessed_table : FnScope N_guessed_table ["proposal", "weights", "guesses"] (defScope st_guessed_table) := ⟨rfl, rfl, rfl, by decide +kernel, rfl, by decide +kernel, by decide +kernel⟩
abbrev st_are_table : Stmt := top 72
abbrev N_are_table : List Str := ["value", "least", "most", "row", "number"]
theorem sc_are_table : FnScope N_are_table ["value", "least", "most"] (defScope st_are_table) := ⟨rfl, rfl, rfl, by decide +kernel, rfl, by decide +kernel, by decide +kernel⟩
abbrev st_told_table_2 : Stmt := top 73
abbrev N_told_table_2 : List Str := ["value", "number", "row"]
theorem sc_told_table_2 : FnScope N_told_table_2 ["value"] (defScope st_told_table_2) := ⟨rfl, rfl, rfl, by decide +kernel, rfl, by decide +kernel, by decide +kernel⟩
abbrev st_turned_of : Stmt := top 75
abbrev N_turned_of : List Str := ["rows", "place", "row"]
theorem sc_turned_of : FnScope N_turned_of ["rows"] (defScope st_turned_of) := ⟨rfl, rfl, rfl, by decide +kernel, rfl, by decide +kernel, by decide +kernel⟩
abbrev st_dot : Stmt := top 76
abbrev N_dot : List Str := ["near", "far", "one", "other"]
theorem sc_dot : FnScope N_dot ["near", "far"] (defScope st_dot) := ⟨rfl, rfl, rfl, by decide +kernel, rfl, by decide +kernel, by decide +kernel⟩
abbrev st_table_led : Stmt := top 77
abbrev N_table_led : List Str := ["rows", "row", "one"]
theorem sc_table_led : FnScope N_table_led ["rows", "row"] (defScope st_table_led) := ⟨rfl, rfl, rfl, by decide +kernel, rfl, by decide +kernel, by decide +kernel⟩
abbrev st_want_form : Stmt := top 79
abbrev N_want_form : List Str := ["value", "rows"]
theorem sc_want_form : FnScope N_want_form ["value"] (defScope st_want_form) := ⟨rfl, rfl, rfl, by decide +kernel, rfl, by decide +kernel, by decide +kernel⟩
abbrev st_is_row : Stmt := top 80
abbrev N_is_row : List Str := ["size", "value", "number"]
theorem sc_is_row : FnScope N_is_row ["size", "value"] (defScope st_is_row) := ⟨rfl, rfl, rfl, by decide +kernel, rfl, by decide +kernel, by decide +kernel⟩
abbrev st_worth_of : Stmt := top 81
abbrev N_worth_of : List Str := ["form", "row"]
theorem sc_worth_of : FnScope N_worth_of ["form", "row"] (defScope st_worth_of) := ⟨rfl, rfl, rfl, by decide +kernel, rfl, by decide +kernel, by decide +kernel⟩
abbrev st_without_square : Stmt := top 82
abbrev N_without_square : List Str := ["form", "place", "row", "number", "found", "at", "much", "one", "other"]
theorem sc_without_square : FnScope N_without_square ["form", "place", "row", "number"] (defScope st_without_square) := ⟨rfl, rfl, rfl, by decide +kernel, rfl, by decide +kernel, by decide +kernel⟩
abbrev st_back_from : Stmt := top 83
abbrev N_back_from : List Str := ["squares", "row", "found", "place", "number", "square"]
theorem sc_back_from : FnScope N_back_from ["squares", "row"] (defScope st_back_from) := ⟨rfl, rfl, rfl, by decide +kernel, rfl, by decide +kernel, by decide +kernel⟩
abbrev st_below_at : Stmt := top 84
abbrev N_below_at : List Str := ["form", "place", "size", "found", "far", "at"]
theorem sc_below_at : FnScope N_below_at ["form", "place"] (defScope st_below_at) := ⟨rfl, rfl, rfl, by decide +kernel, rfl, by decide +kernel, by decide +kernel⟩
abbrev st_parted_of : Stmt := top 85
abbrev N_parted_of : List Str := ["form", "left", "found", "place", "number", "square", "one"]
theorem sc_parted_of : FnScope N_parted_of ["form"] (defScope st_parted_of) := ⟨rfl, rfl, rfl, by decide +kernel, rfl, by decide +kernel, by decide +kernel⟩
abbrev st_is_never_below_of : Stmt := top 86
abbrev N_is_never_below_of : List Str := ["form"]
theorem sc_is_never_below_of : FnScope N_is_never_below_of ["form"] (defScope st_is_never_below_of) := ⟨rfl, rfl, rfl, by decide +kernel, rfl, by decide +kernel, by decide +kernel⟩
abbrev st_worth : Stmt := top 87
abbrev N_worth : List Str := ["form", "row", "rows", "number"]
theorem sc_worth : FnScope N_worth ["form", "row"] (defScope st_worth) := ⟨rfl, rfl, rfl, by decide +kernel, rfl, by decide +kernel, by decide +kernel⟩
abbrev st_is_never_below : Stmt := top 88
abbrev N_is_never_below : List Str := ["form"]
theorem sc_is_never_below : FnScope N_is_never_below ["form"] (defScope st_is_never_below) := ⟨rfl, rfl, rfl, by decide +kernel, rfl, by decide +kernel, by decide +kernel⟩
abbrev st__law_pot : Stmt := top 90
abbrev N__law_pot : List Str := ["script", "k", "cell"]
theorem sc__law_pot : FnScope N__law_pot ["script", "k"] (defScope st__law_pot) := ⟨rfl, rfl, rfl, by decide +kernel, rfl, by decide +kernel, by decide +kernel⟩
abbrev st__law_draw : Stmt := top 91
abbrev N__law_draw : List Str := ["pot", "size", "digit"]
theorem sc__law_draw : FnScope N__law_draw ["pot", "size"] (defScope st__law_draw) := ⟨rfl, rfl, rfl, by decide +kernel, rfl, by decide +kernel, by decide +kernel⟩
abbrev st__law_pick : Stmt := top 92
abbrev N__law_pick : List Str := ["pot", "some"]
theorem sc__law_pick : FnScope N__law_pick ["pot", "some"] (defScope st__law_pick) := ⟨rfl, rfl, rfl, by decide +kernel, rfl, by decide +kernel, by decide +kernel⟩
abbrev st__law_proposal : Stmt := top 93
abbrev N__law_proposal : List Str := ["pot", "places", "rows", "least", "place", "row", "other", "one"]
theorem sc__law_proposal : FnScope N__law_proposal ["pot", "places"] (defScope st__law_proposal) := ⟨rfl, rfl, rfl, by decide +kernel, rfl, by decide +kernel, by decide +kernel⟩
abbrev st__law_weights : Stmt := top 94
abbrev N__law_weights : List Str := ["pot", "places", "found", "place"]
theorem sc__law_weights : FnScope N__law_weights ["pot", "places"] (defScope st__law_weights) := ⟨rfl, rfl, rfl, by decide +kernel, rfl, by decide +kernel, by decide +kernel⟩
abbrev st__law_two : Stmt := top 95
abbrev N__law_two : List Str := ["pot", "half", "third", "sure", "near", "far", "low", "high"]
theorem sc__law_two : FnScope N__law_two ["pot"] (defScope st__law_two) := ⟨rfl, rfl, rfl, by decide +kernel, rfl, by decide +kernel, by decide +kernel⟩
abbrev st__law_is_joined : Stmt := top 96
abbrev N__law_is_joined : List Str := ["rows", "met", "turn", "at", "here"]
theorem sc__law_is_joined : FnScope N__law_is_joined ["rows"] (defScope st__law_is_joined) := ⟨rfl, rfl, rfl, by decide +kernel, rfl, by decide +kernel, by decide +kernel⟩
abbrev st__law_handed : Stmt := top 97
abbrev N__law_handed : List Str := ["guess", "chance", "twelfths"]
theorem sc__law_handed : FnScope N__law_handed ["guess"] (defScope st__law_handed) := ⟨rfl, rfl, rfl, by decide +kernel, rfl, by decide +kernel, by decide +kernel⟩
abbrev st__law_is_form : Stmt := top 98
abbrev N__law_is_form : List Str := ["table"]
theorem sc__law_is_form : FnScope N__law_is_form ["table"] (defScope st__law_is_form) := ⟨rfl, rfl, rfl, by decide +kernel, rfl, by decide +kernel, by decide +kernel⟩
abbrev st__law_right : Stmt := top 99
abbrev N__law_right : List Str := ["pot", "places", "near", "far", "rows", "weights", "place", "one", "other", "sure", "wild", "less", "function", "left", "right", "row", "two"]
theorem sc__law_right : FnScope N__law_right ["pot"] (defScope st__law_right) := ⟨rfl, rfl, rfl, by decide +kernel, rfl, by decide +kernel, by decide +kernel⟩
abbrev st_law : Stmt := top 100
abbrev N_law : List Str := ["script"]
theorem sc_law : FnScope N_law ["script"] (defScope st_law) := ⟨rfl, rfl, rfl, by decide +kernel, rfl, by decide +kernel, by decide +kernel⟩
end Gw
set_option maxHeartbeats 0
namespace Gw
open PySem PySem.Spec PyProof.Rows L2 He
def d_is_integer : DefD := ⟨("is_integer", none), "is_integer", "is_integer", defArgs st_is_integer, defBody st_is_integer, defScope st_is_integer, [], []⟩
def d_divisor_of : DefD := ⟨("divisor_of", none), "divisor_of", "divisor_of", defArgs st_divisor_of, defBody st_divisor_of, defScope st_divisor_of, [], []⟩
def d_told_pair : DefD := ⟨("told_pair", none), "told_pair", "told_pair", defArgs st_told_pair, defBody st_told_pair, defScope st_told_pair, [], []⟩
def d_is_number : DefD := ⟨("is_number", none), "is_number", "is_number", defArgs st_is_number, defBody st_is_number, defScope st_is_number, [], []⟩
def d_ratio_of : DefD := ⟨("ratio_of", none), "ratio_of", "ratio_of", defArgs st_ratio_of, defBody st_ratio_of, defScope st_ratio_of, [], []⟩
def d_want_number : DefD := ⟨("want_number", none), "want_number", "want_number", defArgs st_want_number, defBody st_want_number, defScope st_want_number, [], []⟩
def d_is_list : DefD := ⟨("is_list", none), "is_list", "is_list", defArgs st_is_list, defBody st_is_list, defScope st_is_list, [], []⟩
def d_total_of : DefD := ⟨("total_of", none), "total_of", "total_of", defArgs st_total_of, defBody st_total_of, defScope st_total_of, [], []⟩
def d_wholes : DefD := ⟨("wholes", none), "wholes", "wholes", defArgs st_wholes, defBody st_wholes, defScope st_wholes, [], []⟩
def d_ints_of : DefD := ⟨("ints_of", none), "ints_of", "ints_of", defArgs st_ints_of, defBody st_ints_of, defScope st_ints_of, [], []⟩
def d_bare_row : DefD := ⟨("bare_row", none), "bare_row", "bare_row", defArgs st_bare_row, defBody st_bare_row, defScope st_bare_row, [], []⟩
def d_cleared : DefD := ⟨("cleared", none), "cleared", "cleared", defArgs st_cleared, defBody st_cleared, defScope st_cleared, [], []⟩
def d_first_at : DefD := ⟨("first_at", none), "first_at", "first_at", defArgs st_first_at, defBody st_first_at, defScope st_first_at, [], []⟩
def d_headed_row : DefD := ⟨("headed_row", none), "headed_row", "headed_row", defArgs st_headed_row, defBody st_headed_row, defScope st_headed_row, [], []⟩
def d_head_of : DefD := ⟨("head_of", none), "head_of", "head_of", defArgs st_head_of, defBody st_head_of, defScope st_head_of, [], []⟩
def d_told_rows : DefD := ⟨("told_rows", none), "told_rows", "told_rows", defArgs st_told_rows, defBody st_told_rows, defScope st_told_rows, [], []⟩
def d_int_steps : DefD := ⟨("int_steps", none), "int_steps", "int_steps", defArgs st_int_steps, defBody st_int_steps, defScope st_int_steps, [], []⟩
def d_steps_of : DefD := ⟨("steps_of", none), "steps_of", "steps_of", defArgs st_steps_of, defBody st_steps_of, defScope st_steps_of, [], []⟩
def d_are_numbers : DefD := ⟨("are_numbers", none), "are_numbers", "are_numbers", defArgs st_are_numbers, defBody st_are_numbers, defScope st_are_numbers, [], []⟩
def d_is_table_of : DefD := ⟨("is_table_of", none), "is_table_of", "is_table_of", defArgs st_is_table_of, defBody st_is_table_of, defScope st_is_table_of, [], []⟩
def d_told_table : DefD := ⟨("told_table_rules", none), "told_table", "told_table", defArgs st_told_table, defBody st_told_table, defScope st_told_table, [], []⟩
def d_are_chances : DefD := ⟨("are_chances", none), "are_chances", "are_chances", defArgs st_are_chances, defBody st_are_chances, defScope st_are_chances, [], []⟩
def d_want_proposal : DefD := ⟨("want_proposal", none), "want_proposal", "want_proposal", defArgs st_want_proposal, defBody st_want_proposal, defScope st_want_proposal, [], []⟩
def d_want_weights : DefD := ⟨("want_weights", none), "want_weights", "want_weights", defArgs st_want_weights, defBody st_want_weights, defScope st_want_weights, [], []⟩
def d_is_part : DefD := ⟨("is_part", none), "is_part", "is_part", defArgs st_is_part, defBody st_is_part, defScope st_is_part, [], []⟩
def d_guess_in : DefD := ⟨("guess_in", none), "guess_in", "guess_in", defArgs st_guess_in, defBody st_guess_in, defScope st_guess_in, [], []⟩
def d_want_guesses : DefD := ⟨("want_guesses", none), "want_guesses", "want_guesses", defArgs st_want_guesses, defBody st_want_guesses, defScope st_want_guesses, [], []⟩
def d_standings_of : DefD := ⟨("standings_of", none), "standings_of", "standings_of", defArgs st_standings_of, defBody st_standings_of, defScope st_standings_of, [], []⟩
def d_want_at_most : DefD := ⟨("want_at_most", none), "want_at_most", "want_at_most", defArgs st_want_at_most, defBody st_want_at_most, defScope st_want_at_most, [], []⟩
def d_flow_between : DefD := ⟨("flow_between", none), "flow_between", "flow_between", defArgs st_flow_between, defBody st_flow_between, defScope st_flow_between, [], []⟩
def d_flows_of_standings : DefD := ⟨("flows_of_standings", none), "flows_of_standings", "flows_of_standings", defArgs st_flows_of_standings, defBody st_flows_of_standings, defScope st_flows_of_standings, [], []⟩
def d_is_joined : DefD := ⟨("is_joined", none), "is_joined", "is_joined", defArgs st_is_joined, defBody st_is_joined, defScope st_is_joined, [], []⟩
def d_worths_ahead : DefD := ⟨("worths_ahead", none), "worths_ahead", "worths_ahead", defArgs st_worths_ahead, defBody st_worths_ahead, defScope st_worths_ahead, [], []⟩
def d_table_of_standings : DefD := ⟨("table_of_standings", none), "table_of_standings", "table_of_standings", defArgs st_table_of_standings, defBody st_table_of_standings, defScope st_table_of_standings, [], []⟩
def d_guessed_table : DefD := ⟨("guessed_table", none), "guessed_table", "guessed_table", defArgs st_guessed_table, defBody st_guessed_table, defScope st_guessed_table, [], []⟩
def d__law_draw : DefD := ⟨("_law_draw", none), "_law_draw", "_law_draw", defArgs st__law_draw, defBody st__law_draw, defScope st__law_draw, [], []⟩
def d__law_pot : DefD := ⟨("_law_pot", none), "_law_pot", "_law_pot", defArgs st__law_pot, defBody st__law_pot, defScope st__law_pot, [], []⟩
def d__law_pick : DefD := ⟨("_law_pick", none), "_law_pick", "_law_pick", defArgs st__law_pick, defBody st__law_pick, defScope st__law_pick, [], []⟩
def d__law_weights : DefD := ⟨("_law_weights", none), "_law_weights", "_law_weights", defArgs st__law_weights, defBody st__law_weights, defScope st__law_weights, [], []⟩
def d__law_proposal : DefD := ⟨("_law_proposal", none), "_law_proposal", "_law_proposal", defArgs st__law_proposal, defBody st__law_proposal, defScope st__law_proposal, [], []⟩
def d__law_two : DefD := ⟨("_law_two", none), "_law_two", "_law_two", defArgs st__law_two, defBody st__law_two, defScope st__law_two, [], []⟩
def d__law_handed : DefD := ⟨("_law_handed", none), "_law_handed", "_law_handed", defArgs st__law_handed, defBody st__law_handed, defScope st__law_handed, [], []⟩
def d__law_is_joined : DefD := ⟨("_law_is_joined", none), "_law_is_joined", "_law_is_joined", defArgs st__law_is_joined, defBody st__law_is_joined, defScope st__law_is_joined, [], []⟩
def d_want_guess : DefD := ⟨("want_guess", none), "want_guess", "want_guess", defArgs st_want_guess, defBody st_want_guess, defScope st_want_guess, [], []⟩
def d_above : DefD := ⟨("above", none), "above", "above", defArgs st_above, defBody st_above, defScope st_above, [], []⟩
def d_is_hinge_of : DefD := ⟨("is_hinge_of", none), "is_hinge_of", "is_hinge_of", defArgs st_is_hinge_of, defBody st_is_hinge_of, defScope st_is_hinge_of, [], []⟩
def d_hinge_of : DefD := ⟨("hinge_of", none), "hinge_of", "hinge_of", defArgs st_hinge_of, defBody st_hinge_of, defScope st_hinge_of, [], []⟩
def d_is_less_spread : DefD := ⟨("is_less_spread", none), "is_less_spread", "is_less_spread", defArgs st_is_less_spread, defBody st_is_less_spread, defScope st_is_less_spread, [], []⟩
def d_are_table : DefD := ⟨("are_table", none), "are_table", "are_table", defArgs st_are_table, defBody st_are_table, defScope st_are_table, [], []⟩
def d_told_table_2 : DefD := ⟨("told_table_tables", none), "told_table", "told_table", defArgs st_told_table_2, defBody st_told_table_2, defScope st_told_table_2, [], []⟩
def d_turned_of : DefD := ⟨("turned_of", none), "turned_of", "turned_of", defArgs st_turned_of, defBody st_turned_of, defScope st_turned_of, [], []⟩
def d_dot : DefD := ⟨("dot", none), "dot", "dot", defArgs st_dot, defBody st_dot, defScope st_dot, [], []⟩
def d_table_led : DefD := ⟨("table_led", none), "table_led", "table_led", defArgs st_table_led, defBody st_table_led, defScope st_table_led, [], []⟩
def d_want_form : DefD := ⟨("want_form", none), "want_form", "want_form", defArgs st_want_form, defBody st_want_form, defScope st_want_form, [], []⟩
def d_is_row : DefD := ⟨("is_row", none), "is_row", "is_row", defArgs st_is_row, defBody st_is_row, defScope st_is_row, [], []⟩
def d_worth_of : DefD := ⟨("worth_of", none), "worth_of", "worth_of", defArgs st_worth_of, defBody st_worth_of, defScope st_worth_of, [], []⟩
def d_worth : DefD := ⟨("worth", none), "worth", "worth", defArgs st_worth, defBody st_worth, defScope st_worth, [], []⟩
def d_without_square : DefD := ⟨("without_square", none), "without_square", "without_square", defArgs st_without_square, defBody st_without_square, defScope st_without_square, [], []⟩
def d_parted_of : DefD := ⟨("parted_of", none), "parted_of", "parted_of", defArgs st_parted_of, defBody st_parted_of, defScope st_parted_of, [], []⟩
def d_is_never_below_of : DefD := ⟨("is_never_below_of", none), "is_never_below_of", "is_never_below_of", defArgs st_is_never_below_of, defBody st_is_never_below_of, defScope st_is_never_below_of, [], []⟩
def d_is_never_below : DefD := ⟨("is_never_below", none), "is_never_below", "is_never_below", defArgs st_is_never_below, defBody st_is_never_below, defScope st_is_never_below, [], []⟩
def d__law_is_form : DefD := ⟨("_law_is_form", none), "_law_is_form", "_law_is_form", defArgs st__law_is_form, defBody st__law_is_form, defScope st__law_is_form, [], []⟩
def d__law_right : DefD := ⟨("_law_right", none), "_law_right", "_law_right", defArgs st__law_right, defBody st__law_right, defScope st__law_right, [], []⟩
def d_law : DefD := ⟨("law", none), "law", "law", defArgs st_law, defBody st_law, defScope st_law, [], []⟩
def d_R__init__ : DefD := ⟨("Ratio", some "__init__"), "__init__", "Ratio.__init__", defArgs st_R__init__, defBody st_R__init__, defScope st_R__init__, [.int 1], []⟩
def d_R__add__ : DefD := ⟨("Ratio", some "__add__"), "__add__", "Ratio.__add__", defArgs st_R__add__, defBody st_R__add__, defScope st_R__add__, [], []⟩
def d_R__sub__ : DefD := ⟨("Ratio", some "__sub__"), "__sub__", "Ratio.__sub__", defArgs st_R__sub__, defBody st_R__sub__, defScope st_R__sub__, [], []⟩
def d_R__rsub__ : DefD := ⟨("Ratio", some "__rsub__"), "__rsub__", "Ratio.__rsub__", defArgs st_R__rsub__, defBody st_R__rsub__, defScope st_R__rsub__, [], []⟩
def d_R__mul__ : DefD := ⟨("Ratio", some "__mul__"), "__mul__", "Ratio.__mul__", defArgs st_R__mul__, defBody st_R__mul__, defScope st_R__mul__, [], []⟩
def d_Rover : DefD := ⟨("Ratio", some "over"), "over", "Ratio.over", defArgs st_Rover, defBody st_Rover, defScope st_Rover, [], []⟩
def d_Ris_below : DefD := ⟨("Ratio", some "is_below"), "is_below", "Ratio.is_below", defArgs st_Ris_below, defBody st_Ris_below, defScope st_Ris_below, [], []⟩
def d_R__eq__ : DefD := ⟨("Ratio", some "__eq__"), "__eq__", "Ratio.__eq__", defArgs st_R__eq__, defBody st_R__eq__, defScope st_R__eq__, [], []⟩
def d_Ris_at_most : DefD := ⟨("Ratio", some "is_at_most"), "is_at_most", "Ratio.is_at_most", defArgs st_Ris_at_most, defBody st_Ris_at_most, defScope st_Ris_at_most, [], []⟩
def a_Rsign : DefA := ⟨fun K => recAd K (ma K (cRat K) "sign") "property", "sign", "Ratio.sign", defArgs st_Rsign, defBody st_Rsign, defScope st_Rsign⟩
def a_Rtop : DefA := ⟨fun K => recAd K (ma K (cRat K) "top") "property", "top", "Ratio.top", defArgs st_Rtop, defBody st_Rtop, defScope st_Rtop⟩
def a_Rtotal : DefA := ⟨fun K => recAd K (ma K (cRat K) "total") "classmethod", "total", "Ratio.total", defArgs st_Rtotal, defBody st_Rtotal, defScope st_Rtotal⟩
def hFn0 : List DefD := [d_is_integer, d_divisor_of, d_told_pair, d_is_number, d_ratio_of, d_want_number, d_is_list, d_total_of, d_wholes, d_ints_of, d_bare_row, d_cleared, d_first_at, d_headed_row, d_head_of, d_told_rows, d_int_steps, d_steps_of, d_are_numbers, d_is_table_of]
def hFn1 : List DefD := [d_told_table, d_are_chances, d_want_proposal, d_want_weights, d_is_part, d_guess_in, d_want_guesses, d_standings_of, d_want_at_most, d_flow_between, d_flows_of_standings, d_is_joined, d_worths_ahead, d_table_of_standings, d_guessed_table, d__law_draw, d__law_pot, d__law_pick, d__law_weights, d__law_proposal]
def hFn2 : List DefD := [d__law_two, d__law_handed, d__law_is_joined, d_want_guess, d_above, d_is_hinge_of, d_hinge_of, d_is_less_spread, d_are_table, d_told_table_2, d_turned_of, d_dot, d_table_led, d_want_form, d_is_row, d_worth_of, d_worth, d_without_square, d_parted_of, d_is_never_below_of]
def hFn3 : List DefD := [d_is_never_below, d__law_is_form, d__law_right, d_law, d_R__init__, d_R__add__, d_R__sub__, d_R__rsub__, d_R__mul__, d_Rover, d_Ris_below, d_R__eq__, d_Ris_at_most]
def hFn : List DefD := hFn0 ++ hFn1 ++ hFn2 ++ hFn3
def hFa0 : List Fa := [.glo "is_integer", .glo "divisor_of", .glo "told_pair", .glo "is_number", .glo "ratio_of", .glo "want_number", .glo "is_list", .glo "total_of", .glo "wholes", .glo "ints_of", .glo "bare_row", .glo "cleared", .glo "first_at", .glo "headed_row", .glo "head_of", .glo "told_rows", .glo "int_steps", .glo "steps_of", .glo "are_numbers", .glo "is_table_of"]
def hFa1 : List Fa := [.glo "told_table_rules", .glo "are_chances", .glo "want_proposal", .glo "want_weights", .glo "is_part", .glo "guess_in", .glo "want_guesses", .glo "standings_of", .glo "want_at_most", .glo "flow_between", .glo "flows_of_standings", .glo "is_joined", .glo "worths_ahead", .glo "table_of_standings", .glo "guessed_table", .glo "_law_draw", .glo "_law_pot", .glo "_law_pick", .glo "_law_weights", .glo "_law_proposal"]
def hFa2 : List Fa := [.glo "_law_two", .glo "_law_handed", .glo "_law_is_joined", .glo "want_guess", .glo "above", .glo "is_hinge_of", .glo "hinge_of", .glo "is_less_spread", .glo "are_table", .glo "told_table_tables", .glo "turned_of", .glo "dot", .glo "table_led", .glo "want_form", .glo "is_row", .glo "worth_of", .glo "worth", .glo "without_square", .glo "parted_of", .glo "is_never_below_of"]
def hFa3 : List Fa := [.glo "is_never_below", .glo "_law_is_form", .glo "_law_right", .glo "law", .free "isinstance", .free "int", .free "bool", .free "list", .free "tuple", .free "len", .free "all", .free "any", .free "sum", .free "zip", .free "enumerate", .free "range", .free "abs", .free "max", .free "divmod", .int "LEAST_PLACES" 2]
def hFa4 : List Fa := [.int "MOST_PLACES" 6, .int "MOST_PARTS" 4, .int "MOST_STANDINGS" 8, .int "MOST_SIZE" 12, .glo "Ratio", .cls "Ratio", .noat "Ratio" "own_top", .noat "Ratio" "own_bottom", .mkr "Ratio", .meth "Ratio" "over", .meth "Ratio" "is_below", .meth "Ratio" "is_at_most"]
def hFa : List Fa := hFa0 ++ hFa1 ++ hFa2 ++ hFa3 ++ hFa4
def hDa : List DefA := [a_Rsign, a_Rtop, a_Rtotal]
def hEx (K : PySem.W.Frag) : Bool := xGlo K && (xRat K && (xOp K .Add "__add__" "__radd__" && (xOp K .Sub "__sub__" "__rsub__" && (xOp K .Mult "__mul__" "__rmul__" && (xEq K && (xProp K "sign" && (xProp K "top" && xCm K "total")))))))
def hLoose0 : List Str := ["_wall", "__name__", "WalkError", "ValueError", "StateError", "RuntimeError", "LimitError", "ArithmeticError", "InvalidForm", "InvalidNumber", "DividedByZero", "InvalidGuess", "InvalidGuesses", "InvalidProposal", "InvalidRow", "InvalidWeights", "NotWhole", "TooMany", "is_integer", "is_list"]
def hLoose1 : List Str := ["want_at_most", "PART", "digits_of", "divisor_of", "Ratio", "told_pair", "is_number", "ratio_of", "want_number", "wholes", "total_of", "ints_of", "bare_row", "cleared", "first_at", "headed_row", "int_steps", "head_of", "told_rows", "steps_of"]
def hLoose2 : List Str := ["LEAST_PLACES", "MOST_PLACES", "are_numbers", "is_table_of", "told_table", "told_table_rules", "are_chances", "want_proposal", "want_weights", "MOST_PARTS", "is_part", "guess_in", "want_guess", "above", "is_hinge_of", "hinge_of", "is_less_spread", "MOST_STANDINGS", "want_guesses", "standings_of"]
def hLoose3 : List Str := ["flow_between", "flows_of_standings", "is_joined", "worths_ahead", "table_of_standings", "guessed_table", "MOST_SIZE", "are_table", "told_table_tables", "turned_of", "dot", "table_led", "want_form", "is_row", "worth_of", "without_square", "back_from", "below_at", "parted_of", "is_never_below_of"]
def hLoose4 : List Str := ["worth", "is_never_below", "_law_pot", "_law_draw", "_law_pick", "_law_proposal", "_law_weights", "_law_two", "_law_is_joined", "_law_handed", "_law_is_form", "_law_right"]
def hLoose : List Str := hLoose0 ++ hLoose1 ++ hLoose2 ++ hLoose3 ++ hLoose4
abbrev hR : PySem.W.OpenRow := PySem.W.OpenLaw.row PySem.Challenge.rw_walkworths_k84_whole_less_spread_guesses
abbrev hk : PySem.W.Hook := hookA 1000 hFa hFn hDa hEx
def hOb (s : PySem.W.SharedT) : AlG := obsAG 1000 hFa hFn hDa hEx (HandSHeadRun.getT s)
theorem hOb_eq (s : PySem.W.SharedT) : hOb s = hk.obs s.abs := obsAG_eq (HandSHeadRun.getT_eq s)
theorem hRun (w : World) : HandSHeadRun.RunEqI hR (PySem.W.view hR.prog [0, 100]) hk hOb 20000 hLoose w := by
  unfold HandSHeadRun.RunEqI
  kernel_rfl
end Gw
set_option maxHeartbeats 4000000
namespace Gw
open PySem PySem.Spec PyProof.Rows L2
section
variable {X : Cx} {E : En} {G : List Sl} {e : Expr} {st : Stmt} {Ra Rb : V → Hp → Prop} {Rm Rl : List V → Hp → Prop} {Rt : V → Hp → Hp → Prop} {K : PySem.W.Frag}
/-- a, xs = value, new list: through the pair, as cells are stored -/
theorem js_asgFM {i j : Nat} (hij : i ≠ j) (p : PS X st (tAsg (tTup (tCons (tE E G Ra) (tCons (tM E G Rm) tNil))) (gTup K 2 (gCons (gName i) (gCons (gName j) gNil))))) : PS X st (tS E G Rt (· = (G.set i (.fz Ra)).set j (.mt Rm))) := PS_imp p fun D σ H ⟨F, S, kn, kr⟩ =>
  ⟨F, S, fun v F1 H1 g1 u1 => ⟨F1, S.gr g1, fun q ws F2 H2 g2 n1 n2 n3 u2 => ⟨by show 2 ≤ sizeLine; decide, fun t ht => by
    have g3 := Gr.raw (o := HO.tup [v, .ref q]) g2.ok ht
    have qt : q ≠ t := ne_of_none n3 ht
    refine ⟨t, [v, .ref q], rfl, .inl (.inl upd_same), rfl, _, _, rfl, _, _, rfl, rfl, ?_⟩
    refine kn _ _ F2 _ rfl (((S.gr ((g1.trans g2).trans g3)).set_fz (u1.mono g2.f)).set_mt n2 ((S.gr g1).bs.back n1) (by rw [upd_ne qt]; exact n3) u2 fun k Rk hk hG hs => ?_) (g1.trans g2).f
    by_cases z : k = i
    · subst z
      have hl : k < G.length := by
        have := (List.getElem?_eq_some_iff.mp hG).1
        simpa using this
      rw [List.getElem?_set_self hl] at hG
      cases hG
    · rw [List.getElem?_set_ne (Ne.symm z)] at hG hs
      exact fresh_mt (S.gr g1) n1 hG hs⟩⟩⟩
theorem js_asgMM {i j : Nat} (hij : i ≠ j) (p : PS X st (tAsg (tTup (tCons (tM E G Rm) (tCons (tM E G Rl) tNil))) (gTup K 2 (gCons (gName i) (gCons (gName j) gNil))))) : PS X st (tS E G Rt (· = (G.set i (.mt Rm)).set j (.mt Rl))) := PS_imp p fun D σ H ⟨F, S, kn, kr⟩ =>
  ⟨F, S, fun q ws F1 H1 g1 n1 n2 n3 u1 => ⟨F1, S.gr g1, fun q' ws' F2 H2 g2 m1 m2 m3 u2 => ⟨by show 2 ≤ sizeLine; decide, fun t ht => by
    have g3 := Gr.raw (o := HO.tup [.ref q, .ref q']) g2.ok ht
    have nq : q ≠ q' := ne_of_none n3 m1
    have np : E.pp ≠ some q := fun z => by
      obtain ⟨_, x, y, h2, _⟩ := S.ok.p q z
      rw [n1] at h2
      cases h2
    have f2 : F2 q = none := by
      cases z : F2 q with
      | none => rfl
      | some o =>
        rcases g2.n q o z with w | w
        · rw [n2] at w; cases w
        · rw [n3] at w; cases w
    have h2q := g2.k q _ n3 np
    have qt : q ≠ t := ne_of_none h2q ht
    have qt' : q' ≠ t := ne_of_none m3 ht
    refine ⟨t, [.ref q, .ref q'], rfl, .inl (.inl upd_same), rfl, _, _, rfl, _, _, rfl, rfl, ?_⟩
    have S1 := (S.gr ((g1.trans g2).trans g3)).set_mt (i := i) f2 (S.bs.back n1) (by rw [upd_ne qt]; exact h2q) (u1.mono g2.f) fun k Rk hk hG hs => fresh_mt S n1 hG hs
    refine kn _ _ F2 _ rfl (S1.set_mt m2 ((S.gr g1).bs.back m1) (by rw [upd_ne qt']; exact m3) u2 fun k Rk hk hG hs => ?_) (g1.trans g2).f
    by_cases z : k = i
    · subst z
      have hl : k < σ.length := by
        have := (List.getElem?_eq_some_iff.mp hs).1
        simpa using this
      rw [List.getElem?_set_self hl] at hs
      cases hs
      exact nq rfl
    · rw [List.getElem?_set_ne (Ne.symm z)] at hG hs
      exact fresh_mt (S.gr g1) m1 hG hs⟩⟩⟩
/-- a test that reads a list that may still turn -/
theorem jt_view {i : Nat} {b : Bool} (hG : G[i]? = some (.mt Rm)) (p : PT X e (tT E (G.set i (.fz (LstOf Rm))) b)) : PT X e (tT E G b) := PT_imp p fun σ H Q ⟨F, S, k⟩ => by
  obtain ⟨p, vs, e, h1, h2, h3, h4, S'⟩ := S.freeze hG
  exact ⟨_, S', fun F2 H2 g => k _ H2 (hide_gr S.ok h1 h3 g)⟩
/-- another object of this def's own turns -/
theorem Sat.poke {σ : L2.St} {F H : Hp} (S : Sat E G σ F H) {q : Addr} {o : HO} (hF : F q = none) (hE : E.H q = none) (hm : ∀ (i : Nat) (R : List V → Hp → Prop), G[i]? = some (.mt R) → σ[i]? ≠ some (some (.ref q))) : Sat E G σ F (upd H q o) where
  len := S.len
  bs := {
    f := S.bs.f
    s := fun a o q' => by
      have ne : a ≠ q := fun z => by rw [z, hF] at q'; cases q'
      rw [upd_ne ne]
      exact S.bs.s a o q'
    k := fun a o q' hp => by
      have ne : a ≠ q := fun z => by rw [z, hE] at q'; cases q'
      rw [upd_ne ne]
      exact S.bs.k a o q' hp
    n := S.bs.n
    p := fun a ha => by
      obtain ⟨q1, x, y, q2, q3⟩ := S.bs.p a ha
      have ne : a ≠ q := fun z => S.npot hE (by rw [← z]; exact ha)
      exact ⟨q1, x, y, by rw [upd_ne ne]; exact q2, q3⟩ }
  p0 := S.p0
  fz := S.fz
  mt := fun i R h => by
    obtain ⟨p, vs, e, h1, h2, h3, h4⟩ := S.mt i R h
    have ne : p ≠ q := fun z => hm i R h (by rw [← z]; exact e)
    exact ⟨p, vs, e, h1, h2, by rw [upd_ne ne]; exact h3, h4⟩
  ap := S.ap
  pt := S.pt
end
theorem isU_ints {ms : List Nat} {vs : List V} {F : Hp} (h : LsOf IsU ms vs F) : LsOf IsI (ms.map fun (n : Nat) => (n : Int)) vs F := by
  unfold LsOf at h ⊢
  induction h with
  | nil => exact .nil
  | cons r t ih => exact .cons r ih
theorem isU_lst {ms : List Nat} : ∀ v F, IsL IsU ms v F → IsL IsI (ms.map fun (n : Nat) => (n : Int)) v F := fun v F ⟨a, vs, e, h, u⟩ => ⟨a, vs, e, h, u.imp fun F q => isU_ints q⟩
end Gw
/-! Plain facts of rational numbers, as the text computes them. -/
namespace Gw
theorem q_den0 (q : Rat) : (q.den : Int) ≠ 0 := by
  have := q.den_nz
  omega
theorem q_self (q : Rat) : Rat.divInt q.num (q.den : Int) = q := Rat.num_divInt_den q
theorem q_add (q r : Rat) : Rat.divInt (q.num * r.den + r.num * q.den) (q.den * r.den) = q + r := by
  rw [← Rat.divInt_add_divInt _ _ (q_den0 q) (q_den0 r), q_self, q_self]
theorem q_sub (q r : Rat) : Rat.divInt (q.num * r.den - r.num * q.den) (q.den * r.den) = q - r := by
  rw [← Rat.divInt_sub_divInt _ _ (q_den0 q) (q_den0 r), q_self, q_self]
theorem q_rsub (q r : Rat) : Rat.divInt (r.num * q.den - q.num * r.den) (q.den * r.den) = r - q := by
  rw [← q_sub r q, Int.mul_comm (q.den : Int)]
theorem q_mul (q r : Rat) : Rat.divInt (q.num * r.num) (q.den * r.den) = q * r := by
  rw [← Rat.divInt_mul_divInt, q_self, q_self]
theorem q_over (q r : Rat) : Rat.divInt (q.num * r.den) (q.den * r.num) = q / r := by
  rw [← Rat.divInt_mul_divInt, q_self, Rat.div_def]
  congr 1
  rw [← Rat.inv_divInt, q_self]
theorem q_lt (q r : Rat) : decide (q.num * r.den < r.num * q.den) = decide (q < r) := by
  rw [decide_eq_decide]
  exact (Rat.lt_iff q r).symm
theorem q_eq (q r : Rat) : (decide (q.num = r.num) && decide ((q.den : Int) = r.den)) = decide (q = r) := by
  rw [← Bool.decide_and, decide_eq_decide]
  constructor
  · rintro ⟨h1, h2⟩
    exact Rat.ext h1 (by omega)
  · rintro rfl
    exact ⟨rfl, rfl⟩
theorem q_sgn (q : Rat) : ((if decide ((0 : Int) < q.num) = true then (1 : Int) else 0) - (if decide (q.num < 0) = true then (1 : Int) else 0)) = q.num.sign := by
  rcases Int.lt_trichotomy q.num 0 with h | h | h
  · rw [Int.sign_eq_neg_one_of_neg h]
    simp [h, Int.lt_asymm h]
  · rw [h]; rfl
  · rw [Int.sign_eq_one_of_pos h]
    simp [h, Int.lt_asymm h]
theorem q_sgn_pos (q : Rat) : decide ((0 : Int) < q.num.sign) = decide (0 < q) := by
  rw [decide_eq_decide, Int.sign_pos_iff]
  rw [Rat.lt_iff]
  simp
theorem q_sgn_nn (q : Rat) : decide ((0 : Int) ≤ q.num.sign) = decide (0 ≤ q) := by
  rw [decide_eq_decide]
  rw [← Rat.num_nonneg]
  constructor
  · intro h
    rcases Int.lt_trichotomy q.num 0 with h2 | h2 | h2
    · rw [Int.sign_eq_neg_one_of_neg h2] at h; omega
    · omega
    · omega
  · intro h
    rcases Int.lt_trichotomy q.num 0 with h2 | h2 | h2
    · omega
    · rw [h2]; decide
    · rw [Int.sign_eq_one_of_pos h2]; decide
/-- the divisor of __init__ -/
def iniC (t b : Int) : Int := if b < 0 then 0 - ((Nat.gcd t.natAbs b.natAbs : Nat) : Int) else ((Nat.gcd t.natAbs b.natAbs : Nat) : Int)
theorem gcd_pos' (t b : Int) (hb : b ≠ 0) : 0 < ((Nat.gcd t.natAbs b.natAbs : Nat) : Int) := by
  have : 0 < Nat.gcd t.natAbs b.natAbs := Nat.gcd_pos_of_pos_right _ (by omega)
  omega
theorem iniC_ne (t b : Int) (hb : b ≠ 0) : iniC t b ≠ 0 := by
  have := gcd_pos' t b hb
  unfold iniC
  split <;> omega
theorem ini_top (t b : Int) (hb : b ≠ 0) : t.fdiv (iniC t b) = (Rat.divInt t b).num := by
  have hg := gcd_pos' t b hb
  have h1 : ((b.gcd t : Nat) : Int) = ((Nat.gcd t.natAbs b.natAbs : Nat) : Int) := by
    unfold Int.gcd
    rw [Nat.gcd_comm]
  have hd : ((Nat.gcd t.natAbs b.natAbs : Nat) : Int) ∣ t := by
    rw [← Int.dvd_natAbs]
    exact Int.natCast_dvd_natCast.mpr (Nat.gcd_dvd_left _ _)
  rw [Rat.num_divInt, h1]
  obtain ⟨c, hc⟩ := hd
  generalize hG : ((Nat.gcd t.natAbs b.natAbs : Nat) : Int) = g at *
  unfold iniC
  rw [hG]
  rcases Int.lt_trichotomy b 0 with h | h | h
  · rw [if_pos h, Int.sign_eq_neg_one_of_neg h, hc]
    have e1 : (g * c).fdiv (0 - g) = -c := by
      rw [show g * c = (0 - g) * (-c) by grind]
      exact Int.mul_fdiv_cancel_left _ (by omega)
    have e2 : -1 * (g * c) / g = -c := by
      rw [show -1 * (g * c) = g * (-c) by grind]
      exact Int.mul_ediv_cancel_left _ (by omega)
    rw [e1, e2]
  · exact absurd h hb
  · rw [if_neg (by omega), Int.sign_eq_one_of_pos h, hc]
    rw [Int.mul_fdiv_cancel_left _ (by omega), Int.one_mul, Int.mul_ediv_cancel_left _ (by omega)]
theorem ini_bot (t b : Int) (hb : b ≠ 0) : b.fdiv (iniC t b) = ((Rat.divInt t b).den : Int) := by
  have hg := gcd_pos' t b hb
  have h1 : b.gcd t = Nat.gcd t.natAbs b.natAbs := by
    unfold Int.gcd
    rw [Nat.gcd_comm]
  have hd : Nat.gcd t.natAbs b.natAbs ∣ b.natAbs := Nat.gcd_dvd_right _ _
  rw [Rat.den_divInt, h1, if_neg hb]
  obtain ⟨c, hc⟩ := hd
  generalize hG : Nat.gcd t.natAbs b.natAbs = g at *
  rw [hc, Nat.mul_div_cancel_left _ (by omega)]
  unfold iniC
  rw [hG]
  rcases Int.lt_trichotomy b 0 with h | h | h
  · rw [if_pos h]
    have e : b = (0 - (g : Int)) * (c : Int) := by
      have : ((b.natAbs : Nat) : Int) = (g : Int) * (c : Int) := by rw [hc]; exact Int.natCast_mul _ _
      have h2 : ((b.natAbs : Nat) : Int) = -b := by omega
      rw [h2] at this
      grind
    rw [e]
    exact Int.mul_fdiv_cancel_left _ (by omega)
  · exact absurd h hb
  · rw [if_neg (by omega)]
    have e : b = (g : Int) * (c : Int) := by
      have : ((b.natAbs : Nat) : Int) = (g : Int) * (c : Int) := by rw [hc]; exact Int.natCast_mul _ _
      have h2 : ((b.natAbs : Nat) : Int) = b := by omega
      rw [h2] at this
      exact this
    rw [e]
    exact Int.mul_fdiv_cancel_left _ (by omega)
theorem iniC_le (t b : Int) (hb : b ≠ 0) : (iniC t b).natAbs ≤ b.natAbs := by
  have h1 : Nat.gcd t.natAbs b.natAbs ≤ b.natAbs := Nat.le_of_dvd (by omega) (Nat.gcd_dvd_right _ _)
  unfold iniC
  split <;> omega
theorem log2_mono {a b : Nat} (h : a ≤ b) : a.log2 ≤ b.log2 := by
  by_cases ha : a = 0
  · rw [ha]; simp
  · rw [Nat.le_log2 (by omega)]
    exact Nat.le_trans (Nat.log2_self_le ha) h
theorem log2_lt {a n : Nat} (hn : 0 < n) (h : a < 2 ^ n) : a.log2 < n := by
  by_cases ha : a = 0
  · rw [ha]; simpa using hn
  · exact (Nat.log2_lt ha).mpr h
/-! ### sizes -/
/-- a sum, difference, product of the two is within what the text's ints bear -/
def Fits (q r : Rat) : Prop := q.den * r.den < 2 ^ 9000 ∧ q.num.natAbs < 2 ^ 20000 ∧ r.num.natAbs < 2 ^ 20000
def FitsO (q r : Rat) : Prop := r ≠ 0 ∧ q.den * r.num.natAbs < 2 ^ 9000 ∧ q.num.natAbs < 2 ^ 20000 ∧ r.den < 2 ^ 20000
theorem Fits.d1 {q r : Rat} (h : Fits q r) : q.den < 2 ^ 9000 := Nat.lt_of_le_of_lt (Nat.le_mul_of_pos_right _ r.den_pos) h.1
theorem Fits.d2 {q r : Rat} (h : Fits q r) : r.den < 2 ^ 9000 := Nat.lt_of_le_of_lt (Nat.le_mul_of_pos_left _ q.den_pos) h.1
/-- n bits at most, above and below -/
def Sz (n : Nat) (q : Rat) : Prop := q.num.natAbs < 2 ^ n ∧ q.den < 2 ^ n
theorem Sz.mono {n m : Nat} {q : Rat} (h : Sz n q) (hm : n ≤ m) : Sz m q := ⟨Nat.lt_of_lt_of_le h.1 (Nat.pow_le_pow_right (by omega) hm), Nat.lt_of_lt_of_le h.2 (Nat.pow_le_pow_right (by omega) hm)⟩
theorem Sz.fits {n m : Nat} {q r : Rat} (h : Sz n q) (k : Sz m r) (hn : n + m ≤ 9000) : Fits q r := by
  refine ⟨?_, Nat.lt_of_lt_of_le h.1 (Nat.pow_le_pow_right (by omega) (by omega)), Nat.lt_of_lt_of_le k.1 (Nat.pow_le_pow_right (by omega) (by omega))⟩
  calc q.den * r.den < 2 ^ n * 2 ^ m := Nat.mul_lt_mul'' h.2 k.2
    _ = 2 ^ (n + m) := (Nat.pow_add 2 n m).symm
    _ ≤ 2 ^ 9000 := Nat.pow_le_pow_right (by omega) hn
theorem Sz.fitsO {n m : Nat} {q r : Rat} (h : Sz n q) (k : Sz m r) (hr : r ≠ 0) (hn : n + m ≤ 9000) : FitsO q r := by
  refine ⟨hr, ?_, Nat.lt_of_lt_of_le h.1 (Nat.pow_le_pow_right (by omega) (by omega)), Nat.lt_of_lt_of_le k.2 (Nat.pow_le_pow_right (by omega) (by omega))⟩
  calc q.den * r.num.natAbs < 2 ^ n * 2 ^ m := Nat.mul_lt_mul'' h.2 k.1
    _ = 2 ^ (n + m) := (Nat.pow_add 2 n m).symm
    _ ≤ 2 ^ 9000 := Nat.pow_le_pow_right (by omega) hn
theorem num_le (t b : Int) (hb : b ≠ 0) : (Rat.divInt t b).num.natAbs ≤ t.natAbs := by
  rw [← ini_top t b hb]
  have h := iniC_ne t b hb
  have hd : iniC t b ∣ t := by
    have hd : ((Nat.gcd t.natAbs b.natAbs : Nat) : Int) ∣ t := by
      rw [← Int.dvd_natAbs]
      exact Int.natCast_dvd_natCast.mpr (Nat.gcd_dvd_left _ _)
    unfold iniC
    split
    · obtain ⟨c, hc⟩ := hd
      exact ⟨-c, by grind⟩
    · exact hd
  generalize iniC t b = z at *
  obtain ⟨c, hc⟩ := hd
  rw [hc, Int.mul_fdiv_cancel_left _ h, Int.natAbs_mul]
  exact Nat.le_mul_of_pos_left _ (by omega)
theorem den_le (t b : Int) (hb : b ≠ 0) : (Rat.divInt t b).den ≤ b.natAbs := by
  rw [Rat.den_divInt, if_neg hb]
  exact Nat.div_le_self _ _
theorem Sz.add {n m : Nat} {q r : Rat} (h : Sz n q) (k : Sz m r) : Sz (n + m + 1) (q + r) := by
  have hp : (2 : Nat) ^ (n + m + 1) = 2 * (2 ^ n * 2 ^ m) := by rw [Nat.pow_succ, Nat.pow_add]; omega
  have hb : (q.den : Int) * r.den ≠ 0 := Int.mul_ne_zero (q_den0 q) (q_den0 r)
  have a1 : q.num.natAbs * r.den < 2 ^ n * 2 ^ m := Nat.mul_lt_mul'' h.1 k.2
  have a2 : r.num.natAbs * q.den < 2 ^ n * 2 ^ m := by rw [Nat.mul_comm]; exact Nat.mul_lt_mul'' h.2 k.1
  have a3 : q.den * r.den < 2 ^ n * 2 ^ m := Nat.mul_lt_mul'' h.2 k.2
  rw [← q_add]
  constructor
  · refine Nat.lt_of_le_of_lt (num_le _ _ hb) ?_
    have := Int.natAbs_add_le (q.num * r.den) (r.num * q.den)
    rw [Int.natAbs_mul, Int.natAbs_mul] at this
    simp only [Int.natAbs_natCast] at this
    omega
  · refine Nat.lt_of_le_of_lt (den_le _ _ hb) ?_
    rw [Int.natAbs_mul]
    simp only [Int.natAbs_natCast]
    omega
theorem Sz.mul {n m : Nat} {q r : Rat} (h : Sz n q) (k : Sz m r) : Sz (n + m) (q * r) := by
  have hb : (q.den : Int) * r.den ≠ 0 := Int.mul_ne_zero (q_den0 q) (q_den0 r)
  have a1 : q.num.natAbs * r.num.natAbs < 2 ^ n * 2 ^ m := Nat.mul_lt_mul'' h.1 k.1
  have a3 : q.den * r.den < 2 ^ n * 2 ^ m := Nat.mul_lt_mul'' h.2 k.2
  rw [← q_mul]
  constructor
  · refine Nat.lt_of_le_of_lt (num_le _ _ hb) ?_
    rw [Int.natAbs_mul, Nat.pow_add]
    exact a1
  · refine Nat.lt_of_le_of_lt (den_le _ _ hb) ?_
    rw [Int.natAbs_mul, Nat.pow_add]
    simp only [Int.natAbs_natCast]
    exact a3
theorem Sz.neg {n : Nat} {q : Rat} (h : Sz n q) : Sz n (-q) := ⟨by rw [Rat.neg_num, Int.natAbs_neg]; exact h.1, by rw [Rat.neg_den]; exact h.2⟩
theorem Sz.sub {n m : Nat} {q r : Rat} (h : Sz n q) (k : Sz m r) : Sz (n + m + 1) (q - r) := by
  rw [Rat.sub_eq_add_neg]
  exact h.add k.neg
theorem Sz.int {n : Nat} (hn : 0 < n) {i : Int} (h : i.natAbs < 2 ^ n) : Sz n (i : Rat) := ⟨by rw [Rat.num_intCast]; exact h, by rw [Rat.den_intCast]; exact Nat.one_lt_two_pow (by omega)⟩
end Gw
set_option maxHeartbeats 4000000
namespace Gw
open PySem PySem.Spec PyProof.Rows L2

/-- the names of the text that are no defs -/
structure Glo (K : PySem.W.Frag) (mg : Str → Option Value) (C : Addr) : Prop where
  isi : mg "isinstance" = none
  int : mg "int" = none
  bool : mg "bool" = none
  list : mg "list" = none
  tuple : mg "tuple" = none
  len : mg "len" = none
  all : mg "all" = none
  any : mg "any" = none
  sum : mg "sum" = none
  zip : mg "zip" = none
  enum : mg "enumerate" = none
  range : mg "range" = none
  abs : mg "abs" = none
  max : mg "max" = none
  divmod : mg "divmod" = none
  gcd : mg "gcd" = some (.builtin "math.gcd")
  lcm : mg "lcm" = some (.builtin "math.lcm")
  rat : mg "Ratio" = some (.ref C)
  least : ∃ t, mg "LEAST_PLACES" = some (.int 2 t)
  most : ∃ t, mg "MOST_PLACES" = some (.int 6 t)
  parts : ∃ t, mg "MOST_PARTS" = some (.int 4 t)
  stand : ∃ t, mg "MOST_STANDINGS" = some (.int 8 t)
  F : RatF K C
theorem isi_int {K : PySem.W.Frag} {pp : Option Addr} {i : Int} {n : String} {b : Bool} (h : kitB "int" n = some b) : RC pp (rIsi K) [IsI i, IsC (.ty n)] (IsB b) := rc_isi (t := .type "int") (.ty n) (kit_ty h) fun v F H e h => by
  rw [show v = V.int i from h]
  exact tyx_int
theorem isi_Q {K : PySem.W.Frag} {pp : Option Addr} {q : Rat} {C : Addr} {u : Value} {c : V} {b : Bool} (F : RatF K C) (hc : ClsV c u) (h : PySem.W.kitOne K (.ref C) u = some b) : RC pp (rIsi K) [IsQ C q, IsC c] (IsB b) := rc_isi (t := .ref C) hc h fun v F' H e h => tyx_Q F h e
theorem isi_IQ {K : PySem.W.Frag} {pp : Option Addr} {i : Int} {C : Addr} (F : RatF K C) : RC pp (rIsi K) [IsI i, IsC (.ref C)] (IsB false) := rc_isi (t := .type "int") (.own C) F.io fun v F' H e h => by
  rw [show v = V.int i from h]
  exact tyx_int
theorem mulW_of {i j : Int} {n m : Nat} (hi : i.natAbs < 2 ^ n) (hj : j.natAbs < 2 ^ m) (hn : 0 < n) (hm : 0 < m) (h : n + m ≤ 1000000) : CMulW i j := wide_mul hi hj hn hm h
theorem fits_m1 {q r : Rat} (h : Fits q r) : CMulW q.num (r.den : Int) := mulW_of (n := 20000) (m := 9000) h.2.1 (by rw [Int.natAbs_natCast]; exact h.d2) (by decide) (by decide) (by decide)
theorem fits_m2 {q r : Rat} (h : Fits q r) : CMulW r.num (q.den : Int) := mulW_of (n := 20000) (m := 9000) h.2.2 (by rw [Int.natAbs_natCast]; exact h.d1) (by decide) (by decide) (by decide)
theorem fits_m3 {q r : Rat} (h : Fits q r) : CMulW (q.den : Int) (r.den : Int) := mulW_of (n := 9000) (m := 9000) (by rw [Int.natAbs_natCast]; exact h.d1) (by rw [Int.natAbs_natCast]; exact h.d2) (by decide) (by decide) (by decide)
theorem fits_m4 {q r : Rat} (h : Fits q r) : CMulW q.num r.num := mulW_of (n := 20000) (m := 20000) h.2.1 h.2.2 (by decide) (by decide) (by decide)
theorem fits_ht {q r : Rat} (h : Fits q r) : Ht ((q.den : Int) * (r.den : Int)) := by
  refine ⟨Int.mul_ne_zero (q_den0 q) (q_den0 r), ?_⟩
  rw [Int.natAbs_mul, Int.natAbs_natCast, Int.natAbs_natCast]
  exact log2_lt (by decide) h.1
theorem fitsO_m1 {q r : Rat} (h : FitsO q r) : CMulW q.num (r.den : Int) := mulW_of (n := 20000) (m := 20000) h.2.2.1 (by rw [Int.natAbs_natCast]; exact h.2.2.2) (by decide) (by decide) (by decide)
theorem fitsO_d {q r : Rat} (h : FitsO q r) : q.den < 2 ^ 9000 ∧ r.num.natAbs < 2 ^ 9000 := by
  have hn : 0 < r.num.natAbs := by
    have : r.num ≠ 0 := fun e => h.1 (Rat.num_eq_zero.mp e)
    omega
  exact ⟨Nat.lt_of_le_of_lt (Nat.le_mul_of_pos_right _ hn) h.2.1, Nat.lt_of_le_of_lt (Nat.le_mul_of_pos_left _ q.den_pos) h.2.1⟩
theorem fitsO_m2 {q r : Rat} (h : FitsO q r) : CMulW (q.den : Int) r.num := mulW_of (n := 9000) (m := 9000) (by rw [Int.natAbs_natCast]; exact (fitsO_d h).1) (fitsO_d h).2 (by decide) (by decide) (by decide)
theorem fitsO_ht {q r : Rat} (h : FitsO q r) : Ht ((q.den : Int) * r.num) := by
  refine ⟨Int.mul_ne_zero (q_den0 q) (fun e => h.1 (Rat.num_eq_zero.mp e)), ?_⟩
  rw [Int.natAbs_mul, Int.natAbs_natCast]
  exact log2_lt (by decide) h.2.1
section
variable {P : Program} {w : World} {K : PySem.W.Frag} {mg : Str → Option Value} {base : Heap} {C : Addr}
/-! ### basics -/
abbrev rs_is_integer (C : Addr) : Int ⊕ Rat → List (V → Hp → Prop) := fun w => match w with
  | .inl i => [IsI i]
  | .inr q => [IsQ C q]
abbrev sp_is_integer (C : Addr) : Sp := Pr (rs_is_integer C) (fun _ => True) (fun w => IsB w.isLeft)
abbrev Kn_is_integer (P : Program) (w : World) (K : PySem.W.Frag) (mg : Str → Option Value) (base : Heap) (C : Addr) : Prop := Kn P w K mg base "is_integer" 1 ["value"] (sp_is_integer C)
theorem ok_is_integer (Z : Glo K mg C)  {f : Addr} {fd : FuncData} (Fd : FnP K "is_integer" st_is_integer f fd) : FnOk P w K mg base CX0 1 f fd ["value"] (sp_is_integer C) := by
  refine fn_pr Fd sc_is_integer (fun u => by first | rfl | (cases u <;> rfl)) (fun _ => False) (fun _ _ h => h.elim) (fun X u E hX hp hE => ?_)
  obtain ⟨cdv, A, outer, s, H, E', rfl, hr⟩ := hX
  refine PSs.nox ?_
  have nd := (sc_is_integer).nd
  replace hr : Room 0 (cxOf CX0 P w K mg base N_is_integer "is_integer" (defScope st_is_integer) f cdv A outer s H E').nox.A := hr
  cases u with
  | inl i =>
    exact js_one (js_ret (je_eq (je_and (b1 := true) (b2 := true) (jbB call_isi Z.isi boot_isinstance (ja_cons (jv 0 (R := IsI i)) (ja_cons (jty Z.int boot_int) ja_nil)) (isi_int (by decide +kernel))) fun _ => pe_one (je_not (b1 := false)
      (jbB call_isi Z.isi boot_isinstance (ja_cons (jv 0 (R := IsI i)) (ja_cons (jty Z.bool boot_bool) ja_nil)) (isi_int (by decide +kernel))))) rfl))
  | inr q =>
    refine js_one (js_ret (je_eq (je_and (b1 := false) (b2 := true) (jbB call_isi Z.isi boot_isinstance (ja_cons (jv 0 (R := IsQ C q)) (ja_cons (jty Z.int boot_int) ja_nil)) (isi_Q Z.F (.ty "int") Z.F.oi)) (fun h => nomatch h)) rfl))
abbrev sp_divisor_of (_ : Addr) : Sp := Pr (ι := Int × Int) (fun w => [IsI w.1, IsI w.2]) (fun _ => True) (fun w => IsI ((Nat.gcd w.1.natAbs w.2.natAbs : Nat) : Int))
abbrev Kn_divisor_of (P : Program) (w : World) (K : PySem.W.Frag) (mg : Str → Option Value) (base : Heap) (C : Addr) : Prop := Kn P w K mg base "divisor_of" 1 ["one", "other"] (sp_divisor_of C)
theorem ok_divisor_of (Z : Glo K mg C)  {f : Addr} {fd : FuncData} (Fd : FnP K "divisor_of" st_divisor_of f fd) : FnOk P w K mg base CX0 1 f fd ["one", "other"] (sp_divisor_of C) := by
  refine fn_pr Fd sc_divisor_of (fun u => by first | rfl | (cases u <;> rfl)) (fun _ => False) (fun _ _ h => h.elim) (fun X u E hX hp hE => ?_)
  obtain ⟨cdv, A, outer, s, H, E', rfl, hr⟩ := hX
  refine PSs.nox ?_
  have nd := (sc_divisor_of).nd
  replace hr : Room 0 (cxOf CX0 P w K mg base N_divisor_of "divisor_of" (defScope st_divisor_of) f cdv A outer s H E').nox.A := hr
  exact js_one (js_ret (jbF cr_gcd Z.gcd (ja_cons (jv 0) (ja_cons (jv 1) ja_nil)) rc_gcd))
/-! ### Ratio -/
abbrev sp_R__init__ (C : Addr) : Sp := InitSp C
theorem ok_R__init__ (Z : Glo K mg C) (k_is_integer : Kn_is_integer P w K mg base C) (k_divisor_of : Kn_divisor_of P w K mg base C) {f : Addr} {fd : FuncData} (Fd : FunD K "__init__" "Ratio.__init__" (defArgs st_R__init__) (defBody st_R__init__) (defScope st_R__init__) [V.int 1] [] f fd) : FnOk P w K mg base CX0 2 f fd ["self", "top", "bottom"] (sp_R__init__ C) := by
  refine fn_init Fd sc_R__init__ rfl (fun X E x dx t b hX hp => ?_)
  obtain ⟨cdv, A, outer, s, H, E', rfl, hr⟩ := hX
  refine PSs.nox ?_
  have nd := (sc_R__init__).nd
  replace hr : Room 1 (cxOf CX0 P w K mg base N_R__init__ "Ratio.__init__" (defScope st_R__init__) f cdv A outer s H E').nox.A := hr
  have hg := log2_mono (iniC_le t b hp.1)
  have e1 : qFs (Rat.divInt t b) = [(kTop, .int (t.fdiv (iniC t b))), (kBot, .int (b.fdiv (iniC t b)))] := by
    rw [ini_top t b hp.1, ini_bot t b hp.1]
    rfl
  rw [e1]
  refine js_initS (js_if (b1 := false) (jt_not (b1 := true) (jt_val (pt_val (jc k_is_integer hr (.inl t) (ja_cons (jv 1) ja_nil) trivial)))) (fun h => nomatch h) (fun _ => js_nil rfl)) ?_
  refine js_initS (js_if (b1 := false) (PW.pt (jw_or (b1 := false) (b2 := false) (jt_not (b1 := true) (jt_val (pt_val (jc k_is_integer hr (.inl b) (ja_cons (jv 2) ja_nil) trivial)))) fun _ => jw_or1 (jt_eq (jt_cmp (pt_cmpR op_eq (jv 2 (R := IsI b)) jI (nomark _)) rop_eqI) (decide_eq_false hp.1)))) (fun h => nomatch h) (fun _ => js_nil rfl)) ?_
  refine js_initS (js_set (R := IsI ((Nat.gcd t.natAbs b.natAbs : Nat) : Int)) (ps_set (i := 3) nd rfl (.inl rfl) (jc k_divisor_of hr (t, b) (ja_cons (jv 1) (ja_cons (jv 2) ja_nil)) trivial))) ?_
  refine js_initS (G1 := G0 [IsC (.ref x), IsI t, IsI b, IsI (iniC t b)] 4) (js_if (b1 := decide (b < 0)) (jt_cmp (pt_cmpR op_lt (jv 2) jI (nomark _)) rop_lt) (fun h => js_one (js_N (js_set (R := IsI (iniC t b)) (ps_set (i := 3) nd rfl (.inl rfl) (je_eq (je_op (pe_op op_sub jI (jv 3)) rop_sub) ?_))) ?_)) (fun h => js_nil ?_)) ?_
  · unfold iniC
    rw [if_pos (of_decide_eq_true h)]
  · rintro G' rfl
    rfl
  · unfold iniC
    rw [if_neg (of_decide_eq_false h)]
    rfl
  · refine js_initE Z.F (fun i s h => ?_) rfl (je_op (pe_op op_fdW (jv 1) (jv 3)) (rop_fdW ⟨iniC_ne t b hp.1, Nat.lt_of_le_of_lt hg hp.2⟩)) (fun E => je_op (pe_op op_fdW (jv 2) (jv 3)) (rop_fdW ⟨iniC_ne t b hp.1, Nat.lt_of_le_of_lt hg hp.2⟩)) (pv 0) (pv 0)
    match i with
    | 0 => exact .inr ⟨_, (Option.some.inj h).symm⟩
    | 1 => exact .inr ⟨_, (Option.some.inj h).symm⟩
    | 2 => exact .inr ⟨_, (Option.some.inj h).symm⟩
    | 3 => exact .inr ⟨_, (Option.some.inj h).symm⟩
    | n + 4 => cases h
abbrev sp_Rsign (C : Addr) : Sp := Pr (ι := Rat) (fun q => [IsQ C q]) (fun _ => True) (fun q => IsI q.num.sign)
theorem ok_Rsign (Z : Glo K mg C)  {f : Addr} {fd : FuncData} (Fd : FnM K "sign" "Ratio.sign" st_Rsign f fd) : FnOk P w K mg base CX0 1 f fd ["self"] (sp_Rsign C) := by
  refine fn_pr Fd sc_Rsign (fun u => by first | rfl | (cases u <;> rfl)) (fun _ => False) (fun _ _ h => h.elim) (fun X u E hX hp hE => ?_)
  obtain ⟨cdv, A, outer, s, H, E', rfl, hr⟩ := hX
  refine PSs.nox ?_
  have nd := (sc_Rsign).nd
  replace hr : Room 0 (cxOf CX0 P w K mg base N_Rsign "Ratio.sign" (defScope st_Rsign) f cdv A outer s H E').nox.A := hr
  refine js_one (js_ret (je_eq (je_op (pe_op op_sub (jbT call_int1 Z.int boot_int (ja_cons (je_op (pe_cmpR op_gt (je_top Z.F (jv 0)) jI (nomark _)) rop_gt) ja_nil) rc_int) (jbT call_int1 Z.int boot_int (ja_cons (je_op (pe_cmpR op_lt (je_top Z.F (jv 0)) jI (nomark _)) rop_lt) ja_nil) rc_int)) rop_sub) ?_))
  rw [q_sgn]
abbrev sp_Rtop (C : Addr) : Sp := Pr (ι := Rat) (fun q => [IsQ C q]) (fun _ => True) (fun q => IsI q.num)
theorem ok_Rtop (Z : Glo K mg C)  {f : Addr} {fd : FuncData} (Fd : FnM K "top" "Ratio.top" st_Rtop f fd) : FnOk P w K mg base CX0 1 f fd ["self"] (sp_Rtop C) := by
  refine fn_pr Fd sc_Rtop (fun u => by first | rfl | (cases u <;> rfl)) (fun _ => False) (fun _ _ h => h.elim) (fun X u E hX hp hE => ?_)
  obtain ⟨cdv, A, outer, s, H, E', rfl, hr⟩ := hX
  refine PSs.nox ?_
  have nd := (sc_Rtop).nd
  replace hr : Room 0 (cxOf CX0 P w K mg base N_Rtop "Ratio.top" (defScope st_Rtop) f cdv A outer s H E').nox.A := hr
  exact js_one (js_ret (je_top Z.F (jv 0)))
abbrev sp_told_pair (C : Addr) : Sp := Pr (ι := Rat) (fun q => [IsNm C q]) (fun _ => True) (fun q => IsTp [IsI q.num, IsI (q.den : Int)])
abbrev Kn_told_pair (P : Program) (w : World) (K : PySem.W.Frag) (mg : Str → Option Value) (base : Heap) (C : Addr) : Prop := Kn P w K mg base "told_pair" 2 ["value"] (sp_told_pair C)
theorem ok_told_pair (Z : Glo K mg C) (k_is_integer : Kn_is_integer P w K mg base C) {f : Addr} {fd : FuncData} (Fd : FnP K "told_pair" st_told_pair f fd) : FnOk P w K mg base CX0 2 f fd ["value"] (sp_told_pair C) := by
  refine fn_pr Fd sc_told_pair (fun u => by first | rfl | (cases u <;> rfl)) (fun _ => False) (fun _ _ h => h.elim) (fun X u E hX hp hE => ?_)
  obtain ⟨cdv, A, outer, s, H, E', rfl, hr⟩ := hX
  refine PSs.nox ?_
  have nd := (sc_told_pair).nd
  replace hr : Room 1 (cxOf CX0 P w K mg base N_told_pair "told_pair" (defScope st_told_pair) f cdv A outer s H E').nox.A := hr
  rename Rat => q
  refine js_or (i := 0) (R1 := IsQ C q) (R2 := fun v F => ∃ i : Int, q = (i : Rat) ∧ v = .int i) rfl (fun v F F' h e => h.mono e) (fun v F F' h e => h) ?_ ?_
  · exact js_cons (N1 := fun _ => False) (js_if (b1 := true) (jt_val (pt_val (jbB call_isi Z.isi boot_isinstance (ja_cons (jv 0) (ja_cons (jglob (v := .ref C) Z.rat rfl) ja_nil)) (isi_Q (q := q) Z.F (.own C) Z.F.oo)))) (fun _ =>
      js_one (js_ret (je_tup (pe_tup (ja_cons (je_top Z.F (jv 0)) (ja_cons (je_bot Z.F (jv 0)) ja_nil)))))) (fun h => nomatch h)) (fun _ h => h.elim)
  · refine js_open (i := 0) (P := fun i : Int => q = (i : Rat)) (R := fun i => IsI i) (G := [.fz (Som (fun i : Int => q = (i : Rat)) fun i => IsI i)]) rfl (fun i v F F' h e => h) (fun i hi => ?_)
    subst hi
    refine js_seq (G1 := G0 [IsI i] 1) (js_if (b1 := false) (jt_val (pt_val (jbB call_isi Z.isi boot_isinstance (ja_cons (jv 0) (ja_cons (jglob (v := .ref C) Z.rat rfl) ja_nil)) (isi_IQ (i := i) Z.F)))) (fun h => nomatch h) (fun _ => js_nil rfl)) ?_
    refine js_seq (G1 := G0 [IsI i] 1) (js_if (b1 := false) (jt_not (b1 := true) (jt_val (pt_val (jc k_is_integer hr (.inl i) (ja_cons (jv 0) ja_nil) trivial)))) (fun h => nomatch h) (fun _ => js_nil rfl)) ?_
    exact js_one (js_ret (je_eq (je_tup (pe_tup (ja_cons (jv 0) (ja_cons jI ja_nil)))) rfl))
abbrev sp_R__add__ (C : Addr) : Sp := Pr (qA C) (fun w => Fits w.1 w.2) (fun w => IsQ C (w.1 + w.2))
theorem ok_R__add__ (Z : Glo K mg C) (mk : Mkr P w K mg base C 2) (k_told_pair : Kn_told_pair P w K mg base C) {f : Addr} {fd : FuncData} (Fd : FnM K "__add__" "Ratio.__add__" st_R__add__ f fd) : FnOk P w K mg base CX0 6 f fd ["self", "other"] (sp_R__add__ C) := by
  refine fn_pr Fd sc_R__add__ (fun u => by first | rfl | (cases u <;> rfl)) (fun _ => False) (fun _ _ h => h.elim) (fun X u E hX hp hE => ?_)
  obtain ⟨cdv, A, outer, s, H, E', rfl, hr⟩ := hX
  refine PSs.nox ?_
  have nd := (sc_R__add__).nd
  replace hr : Room 5 (cxOf CX0 P w K mg base N_R__add__ "Ratio.__add__" (defScope st_R__add__) f cdv A outer s H E').nox.A := hr
  obtain ⟨q, r⟩ := u
  have hp : Fits q r := hp
  refine js_seq (js_asg (ps_asg (jc k_told_pair (hr.mono (by decide)) r (ja_cons (jv 1) ja_nil) trivial) (jg2 2 3 nd))) ?_
  refine js_one (js_ret (je_eq (jmk2 mk (hr.mono (by decide)) (ja_cons (je_op (pe_op op_add (je_op (pe_op op_mulW (je_top Z.F (jv 0)) (jv 3)) (rop_mulW (fits_m1 hp))) (je_op (pe_op op_mulW (jv 2) (je_bot Z.F (jv 0))) (rop_mulW (fits_m2 hp)))) rop_add) (ja_cons (je_op (pe_op op_mulW (je_bot Z.F (jv 0)) (jv 3)) (rop_mulW (fits_m3 hp))) ja_nil)) (fits_ht hp)) ?_))
  rw [q_add]
abbrev sp_R__sub__ (C : Addr) : Sp := Pr (qA C) (fun w => Fits w.1 w.2) (fun w => IsQ C (w.1 - w.2))
theorem ok_R__sub__ (Z : Glo K mg C) (mk : Mkr P w K mg base C 2) (k_told_pair : Kn_told_pair P w K mg base C) {f : Addr} {fd : FuncData} (Fd : FnM K "__sub__" "Ratio.__sub__" st_R__sub__ f fd) : FnOk P w K mg base CX0 6 f fd ["self", "other"] (sp_R__sub__ C) := by
  refine fn_pr Fd sc_R__sub__ (fun u => by first | rfl | (cases u <;> rfl)) (fun _ => False) (fun _ _ h => h.elim) (fun X u E hX hp hE => ?_)
  obtain ⟨cdv, A, outer, s, H, E', rfl, hr⟩ := hX
  refine PSs.nox ?_
  have nd := (sc_R__sub__).nd
  replace hr : Room 5 (cxOf CX0 P w K mg base N_R__sub__ "Ratio.__sub__" (defScope st_R__sub__) f cdv A outer s H E').nox.A := hr
  obtain ⟨q, r⟩ := u
  have hp : Fits q r := hp
  refine js_seq (js_asg (ps_asg (jc k_told_pair (hr.mono (by decide)) r (ja_cons (jv 1) ja_nil) trivial) (jg2 2 3 nd))) ?_
  refine js_one (js_ret (je_eq (jmk2 mk (hr.mono (by decide)) (ja_cons (je_op (pe_op op_sub (je_op (pe_op op_mulW (je_top Z.F (jv 0)) (jv 3)) (rop_mulW (fits_m1 hp))) (je_op (pe_op op_mulW (jv 2) (je_bot Z.F (jv 0))) (rop_mulW (fits_m2 hp)))) rop_sub) (ja_cons (je_op (pe_op op_mulW (je_bot Z.F (jv 0)) (jv 3)) (rop_mulW (fits_m3 hp))) ja_nil)) (fits_ht hp)) ?_))
  rw [q_sub]
abbrev sp_R__rsub__ (C : Addr) : Sp := Pr (qA C) (fun w => Fits w.1 w.2) (fun w => IsQ C (w.2 - w.1))
theorem ok_R__rsub__ (Z : Glo K mg C) (mk : Mkr P w K mg base C 2) (k_told_pair : Kn_told_pair P w K mg base C) {f : Addr} {fd : FuncData} (Fd : FnM K "__rsub__" "Ratio.__rsub__" st_R__rsub__ f fd) : FnOk P w K mg base CX0 6 f fd ["self", "other"] (sp_R__rsub__ C) := by
  refine fn_pr Fd sc_R__rsub__ (fun u => by first | rfl | (cases u <;> rfl)) (fun _ => False) (fun _ _ h => h.elim) (fun X u E hX hp hE => ?_)
  obtain ⟨cdv, A, outer, s, H, E', rfl, hr⟩ := hX
  refine PSs.nox ?_
  have nd := (sc_R__rsub__).nd
  replace hr : Room 5 (cxOf CX0 P w K mg base N_R__rsub__ "Ratio.__rsub__" (defScope st_R__rsub__) f cdv A outer s H E').nox.A := hr
  obtain ⟨q, r⟩ := u
  have hp : Fits q r := hp
  refine js_seq (js_asg (ps_asg (jc k_told_pair (hr.mono (by decide)) r (ja_cons (jv 1) ja_nil) trivial) (jg2 2 3 nd))) ?_
  refine js_one (js_ret (je_eq (jmk2 mk (hr.mono (by decide)) (ja_cons (je_op (pe_op op_sub (je_op (pe_op op_mulW (jv 2) (je_bot Z.F (jv 0))) (rop_mulW (fits_m2 hp))) (je_op (pe_op op_mulW (je_top Z.F (jv 0)) (jv 3)) (rop_mulW (fits_m1 hp)))) rop_sub) (ja_cons (je_op (pe_op op_mulW (je_bot Z.F (jv 0)) (jv 3)) (rop_mulW (fits_m3 hp))) ja_nil)) (fits_ht hp)) ?_))
  rw [q_rsub]
abbrev sp_R__mul__ (C : Addr) : Sp := Pr (qA C) (fun w => Fits w.1 w.2) (fun w => IsQ C (w.1 * w.2))
theorem ok_R__mul__ (Z : Glo K mg C) (mk : Mkr P w K mg base C 2) (k_told_pair : Kn_told_pair P w K mg base C) {f : Addr} {fd : FuncData} (Fd : FnM K "__mul__" "Ratio.__mul__" st_R__mul__ f fd) : FnOk P w K mg base CX0 6 f fd ["self", "other"] (sp_R__mul__ C) := by
  refine fn_pr Fd sc_R__mul__ (fun u => by first | rfl | (cases u <;> rfl)) (fun _ => False) (fun _ _ h => h.elim) (fun X u E hX hp hE => ?_)
  obtain ⟨cdv, A, outer, s, H, E', rfl, hr⟩ := hX
  refine PSs.nox ?_
  have nd := (sc_R__mul__).nd
  replace hr : Room 5 (cxOf CX0 P w K mg base N_R__mul__ "Ratio.__mul__" (defScope st_R__mul__) f cdv A outer s H E').nox.A := hr
  obtain ⟨q, r⟩ := u
  have hp : Fits q r := hp
  refine js_seq (js_asg (ps_asg (jc k_told_pair (hr.mono (by decide)) r (ja_cons (jv 1) ja_nil) trivial) (jg2 2 3 nd))) ?_
  refine js_one (js_ret (je_eq (jmk2 mk (hr.mono (by decide)) (ja_cons (je_op (pe_op op_mulW (je_top Z.F (jv 0)) (jv 2)) (rop_mulW (fits_m4 hp))) (ja_cons (je_op (pe_op op_mulW (je_bot Z.F (jv 0)) (jv 3)) (rop_mulW (fits_m3 hp))) ja_nil)) (fits_ht hp)) ?_))
  rw [q_mul]
abbrev sp_Rover (C : Addr) : Sp := Pr (qA C) (fun w => FitsO w.1 w.2) (fun w => IsQ C (w.1 / w.2))
theorem ok_Rover (Z : Glo K mg C) (mk : Mkr P w K mg base C 2) (k_told_pair : Kn_told_pair P w K mg base C) {f : Addr} {fd : FuncData} (Fd : FnM K "over" "Ratio.over" st_Rover f fd) : FnOk P w K mg base CX0 6 f fd ["self", "other"] (sp_Rover C) := by
  refine fn_pr Fd sc_Rover (fun u => by first | rfl | (cases u <;> rfl)) (fun _ => False) (fun _ _ h => h.elim) (fun X u E hX hp hE => ?_)
  obtain ⟨cdv, A, outer, s, H, E', rfl, hr⟩ := hX
  refine PSs.nox ?_
  have nd := (sc_Rover).nd
  replace hr : Room 5 (cxOf CX0 P w K mg base N_Rover "Ratio.over" (defScope st_Rover) f cdv A outer s H E').nox.A := hr
  obtain ⟨q, r⟩ := u
  have hp : FitsO q r := hp
  refine js_seq (js_asg (ps_asg (jc k_told_pair (hr.mono (by decide)) r (ja_cons (jv 1) ja_nil) trivial) (jg2 2 3 nd))) ?_
  have hn : r.num ≠ 0 := fun e => hp.1 (Rat.num_eq_zero.mp e)
  refine js_seq (G1 := G0 [IsQ C q, IsNm C r, IsI r.num, IsI (r.den : Int)] 4) (js_if (b1 := false) (jt_eq (jt_cmp (pt_cmpR op_eq (jv 2 (R := IsI r.num)) jI (nomark _)) rop_eqI) (decide_eq_false hn)) (fun h => nomatch h) (fun _ => js_nil rfl)) ?_
  refine js_one (js_ret (je_eq (jmk2 mk (hr.mono (by decide)) (ja_cons (je_op (pe_op op_mulW (je_top Z.F (jv 0)) (jv 3)) (rop_mulW (fitsO_m1 hp))) (ja_cons (je_op (pe_op op_mulW (je_bot Z.F (jv 0)) (jv 2)) (rop_mulW (fitsO_m2 hp))) ja_nil)) (fitsO_ht hp)) ?_))
  rw [q_over]
abbrev sp_Ris_below (C : Addr) : Sp := Pr (qA C) (fun w => Fits w.1 w.2) (fun w => IsB (decide (w.1 < w.2)))
theorem ok_Ris_below (Z : Glo K mg C) (k_told_pair : Kn_told_pair P w K mg base C) {f : Addr} {fd : FuncData} (Fd : FnM K "is_below" "Ratio.is_below" st_Ris_below f fd) : FnOk P w K mg base CX0 6 f fd ["self", "other"] (sp_Ris_below C) := by
  refine fn_pr Fd sc_Ris_below (fun u => by first | rfl | (cases u <;> rfl)) (fun _ => False) (fun _ _ h => h.elim) (fun X u E hX hp hE => ?_)
  obtain ⟨cdv, A, outer, s, H, E', rfl, hr⟩ := hX
  refine PSs.nox ?_
  have nd := (sc_Ris_below).nd
  replace hr : Room 5 (cxOf CX0 P w K mg base N_Ris_below "Ratio.is_below" (defScope st_Ris_below) f cdv A outer s H E').nox.A := hr
  obtain ⟨q, r⟩ := u
  have hp : Fits q r := hp
  refine js_seq (js_asg (ps_asg (jc k_told_pair (hr.mono (by decide)) r (ja_cons (jv 1) ja_nil) trivial) (jg2 2 3 nd))) ?_
  refine js_one (js_ret (je_eq (je_op (pe_cmpR op_lt (je_op (pe_op op_mulW (je_top Z.F (jv 0)) (jv 3)) (rop_mulW (fits_m1 hp))) (je_op (pe_op op_mulW (jv 2) (je_bot Z.F (jv 0))) (rop_mulW (fits_m2 hp))) (nomark _)) rop_lt) ?_))
  rw [q_lt]
abbrev sp_R__eq__ (C : Addr) : Sp := spEqQ C
theorem ok_R__eq__ (Z : Glo K mg C)  {f : Addr} {fd : FuncData} (Fd : FnM K "__eq__" "Ratio.__eq__" st_R__eq__ f fd) : FnOk P w K mg base CX0 1 f fd ["self", "other"] (sp_R__eq__ C) := by
  refine fn_pr Fd sc_R__eq__ (fun u => by first | rfl | (cases u <;> rfl)) (fun _ => False) (fun _ _ h => h.elim) (fun X u E hX hp hE => ?_)
  obtain ⟨cdv, A, outer, s, H, E', rfl, hr⟩ := hX
  refine PSs.nox ?_
  have nd := (sc_R__eq__).nd
  replace hr : Room 0 (cxOf CX0 P w K mg base N_R__eq__ "Ratio.__eq__" (defScope st_R__eq__) f cdv A outer s H E').nox.A := hr
  obtain ⟨q, r⟩ := u
  refine js_seq (G1 := G0 [IsQ C q, IsQ C r] 2) (js_if (b1 := false) (jt_not (b1 := true) (jt_val (pt_val (jbB call_isi Z.isi boot_isinstance (ja_cons (jv 1) (ja_cons (jglob (v := .ref C) Z.rat rfl) ja_nil)) (isi_Q (q := r) Z.F (.own C) Z.F.oo))))) (fun h => nomatch h) (fun _ => js_nil rfl)) ?_
  refine js_one (js_ret (je_eq (je_and (je_op (pe_cmpR op_eq (je_top Z.F (jv 0)) (je_top Z.F (jv 1)) (nomark _)) rop_eqI) fun _ => pe_one (je_op (pe_cmpR op_eq (je_bot Z.F (jv 0)) (je_bot Z.F (jv 1)) (nomark _)) rop_eqI)) ?_))
  rw [q_eq]
abbrev sp_is_number (C : Addr) : Sp := Pr (ι := Rat) (fun q => [IsNm C q]) (fun _ => True) (fun q => IsB true)
abbrev Kn_is_number (P : Program) (w : World) (K : PySem.W.Frag) (mg : Str → Option Value) (base : Heap) (C : Addr) : Prop := Kn P w K mg base "is_number" 2 ["value"] (sp_is_number C)
theorem ok_is_number (Z : Glo K mg C) (k_is_integer : Kn_is_integer P w K mg base C) {f : Addr} {fd : FuncData} (Fd : FnP K "is_number" st_is_number f fd) : FnOk P w K mg base CX0 2 f fd ["value"] (sp_is_number C) := by
  refine fn_pr Fd sc_is_number (fun u => by first | rfl | (cases u <;> rfl)) (fun _ => False) (fun _ _ h => h.elim) (fun X u E hX hp hE => ?_)
  obtain ⟨cdv, A, outer, s, H, E', rfl, hr⟩ := hX
  refine PSs.nox ?_
  have nd := (sc_is_number).nd
  replace hr : Room 1 (cxOf CX0 P w K mg base N_is_number "is_number" (defScope st_is_number) f cdv A outer s H E').nox.A := hr
  rename Rat => q
  refine js_or (i := 0) (R1 := IsQ C q) (R2 := fun v F => ∃ i : Int, q = (i : Rat) ∧ v = .int i) rfl (fun v F F' h e => h.mono e) (fun v F F' h e => h) ?_ ?_
  · exact js_one (js_ret (je_eq (je_or (b1 := false) (b2 := true) (jc k_is_integer hr (.inr q) (ja_cons (jv 0) ja_nil) trivial) fun _ => pe_one (jbB call_isi Z.isi boot_isinstance (ja_cons (jv 0) (ja_cons (jglob (v := .ref C) Z.rat rfl) ja_nil)) (isi_Q (q := q) Z.F (.own C) Z.F.oo))) rfl))
  · refine js_open (i := 0) (P := fun i : Int => q = (i : Rat)) (R := fun i => IsI i) (G := [.fz (Som (fun i : Int => q = (i : Rat)) fun i => IsI i)]) rfl (fun i v F F' h e => h) (fun i hi => ?_)
    exact js_one (js_ret (je_eq (je_or (b1 := true) (b2 := true) (jc k_is_integer hr (.inl i) (ja_cons (jv 0) ja_nil) trivial) (fun h => nomatch h)) rfl))
abbrev sp_ratio_of (C : Addr) : Sp := Pr (ι := Rat) (fun q => [IsNm C q]) (fun _ => True) (fun q => IsQ C q)
abbrev Kn_ratio_of (P : Program) (w : World) (K : PySem.W.Frag) (mg : Str → Option Value) (base : Heap) (C : Addr) : Prop := Kn P w K mg base "ratio_of" 5 ["number"] (sp_ratio_of C)
theorem ok_ratio_of (Z : Glo K mg C) (mk : Mkr P w K mg base C 2) {f : Addr} {fd : FuncData} (Fd : FnP K "ratio_of" st_ratio_of f fd) : FnOk P w K mg base CX0 5 f fd ["number"] (sp_ratio_of C) := by
  refine fn_pr Fd sc_ratio_of (fun u => by first | rfl | (cases u <;> rfl)) (fun _ => False) (fun _ _ h => h.elim) (fun X u E hX hp hE => ?_)
  obtain ⟨cdv, A, outer, s, H, E', rfl, hr⟩ := hX
  refine PSs.nox ?_
  have nd := (sc_ratio_of).nd
  replace hr : Room 4 (cxOf CX0 P w K mg base N_ratio_of "ratio_of" (defScope st_ratio_of) f cdv A outer s H E').nox.A := hr
  rename Rat => q
  refine js_or (i := 0) (R1 := IsQ C q) (R2 := fun v F => ∃ i : Int, q = (i : Rat) ∧ v = .int i) rfl (fun v F F' h e => h.mono e) (fun v F F' h e => h) ?_ ?_
  · exact js_one (js_ret (je_if (b1 := true) (jt_val (pt_val (jbB call_isi Z.isi boot_isinstance (ja_cons (jv 0) (ja_cons (jglob (v := .ref C) Z.rat rfl) ja_nil)) (isi_Q (q := q) Z.F (.own C) Z.F.oo)))) (fun _ => jv 0) (fun h => nomatch h)))
  · refine js_open (i := 0) (P := fun i : Int => q = (i : Rat)) (R := fun i => IsI i) (G := [.fz (Som (fun i : Int => q = (i : Rat)) fun i => IsI i)]) rfl (fun i v F F' h e => h) (fun i hi => ?_)
    subst hi
    exact js_one (js_ret (je_if (b1 := false) (jt_val (pt_val (jbB call_isi Z.isi boot_isinstance (ja_cons (jv 0) (ja_cons (jglob (v := .ref C) Z.rat rfl) ja_nil)) (isi_IQ (i := i) Z.F)))) (fun h => nomatch h) (fun _ => jmk1 mk (hr.mono (by decide)) (ja_cons (jv 0) ja_nil))))
abbrev sp_want_number (C : Addr) : Sp := Pr (ι := Rat) (fun q => [IsNm C q]) (fun _ => True) (fun q => IsQ C q)
abbrev Kn_want_number (P : Program) (w : World) (K : PySem.W.Frag) (mg : Str → Option Value) (base : Heap) (C : Addr) : Prop := Kn P w K mg base "want_number" 6 ["value"] (sp_want_number C)
theorem ok_want_number (Z : Glo K mg C) (k_is_number : Kn_is_number P w K mg base C) (k_ratio_of : Kn_ratio_of P w K mg base C) {f : Addr} {fd : FuncData} (Fd : FnP K "want_number" st_want_number f fd) : FnOk P w K mg base CX0 6 f fd ["value"] (sp_want_number C) := by
  refine fn_pr Fd sc_want_number (fun u => by first | rfl | (cases u <;> rfl)) (fun _ => False) (fun _ _ h => h.elim) (fun X u E hX hp hE => ?_)
  obtain ⟨cdv, A, outer, s, H, E', rfl, hr⟩ := hX
  refine PSs.nox ?_
  have nd := (sc_want_number).nd
  replace hr : Room 5 (cxOf CX0 P w K mg base N_want_number "want_number" (defScope st_want_number) f cdv A outer s H E').nox.A := hr
  rename Rat => q
  refine js_seq (G1 := G0 [IsNm C q] 1) (js_if (b1 := false) (jt_not (b1 := true) (jt_val (pt_val (jc k_is_number (hr.mono (by decide)) q (ja_cons (jv 0) ja_nil) trivial)))) (fun h => nomatch h) (fun _ => js_nil rfl)) ?_
  exact js_one (js_ret (jc k_ratio_of (hr.mono (by decide)) q (ja_cons (jv 0) ja_nil) trivial))
end
end Gw
/-! What the text's functions compute, in plain Lean; sizes. -/
namespace Gw
theorem foldl_take {α β : Type} {f : β → α → β} {b : β} {xs : List α} {i : Nat} {x : α} (h : xs[i]? = some x) : (xs.take (i + 1)).foldl f b = f ((xs.take i).foldl f b) x := by
  rw [List.take_add_one, h, List.foldl_append]
  rfl
theorem map_take {α β : Type} {f : α → β} {xs : List α} {i : Nat} {x : α} (h : xs[i]? = some x) : (xs.take (i + 1)).map f = (xs.take i).map f ++ [f x] := by
  rw [List.take_add_one, h, List.map_append]
  rfl
/-! ### ratios -/
def sumR (xs : List Rat) : Rat := xs.foldl (· + ·) 0
def FitsL : Rat → List Rat → Prop
  | _, [] => True
  | a, x :: xs => Fits a x ∧ FitsL (a + x) xs
theorem FitsL.at {xs : List Rat} : ∀ {a : Rat}, FitsL a xs → ∀ {i : Nat} {x : Rat}, xs[i]? = some x → Fits ((xs.take i).foldl (· + ·) a) x := by
  induction xs with
  | nil => intro a _ i x h; simp at h
  | cons y ys ih =>
    intro a h i x hx
    cases i with
    | zero =>
      simp at hx
      subst hx
      exact h.1
    | succ i => exact ih h.2 (by simpa using hx)
theorem FitsL.of {n : Nat} {xs : List Rat} : ∀ {a : Rat} {m : Nat}, Sz m a → (∀ x ∈ xs, Sz n x) → m + (n + 1) * xs.length ≤ 9000 → FitsL a xs := by
  induction xs with
  | nil => intro a m _ _ _; trivial
  | cons y ys ih =>
    intro a m ha hx hl
    have e : (n + 1) * (y :: ys).length = (n + 1) * ys.length + (n + 1) := by rw [List.length_cons, Nat.mul_succ]
    rw [e] at hl
    refine ⟨ha.fits (hx y (by simp)) (by omega), ih (m := m + n + 1) (ha.add (hx y (by simp))) (fun x hx' => hx x (by simp [hx'])) (by omega)⟩
theorem sz0 : Sz 1 (0 : Rat) := ⟨by decide, by decide⟩
theorem FitsL.zero {n : Nat} {xs : List Rat} (h : ∀ x ∈ xs, Sz n x) (hl : 1 + (n + 1) * xs.length ≤ 9000) : FitsL 0 xs := FitsL.of sz0 h hl
theorem sz_foldl {n : Nat} {xs : List Rat} : ∀ {a : Rat} {m : Nat}, Sz m a → (∀ x ∈ xs, Sz n x) → Sz (m + (n + 1) * xs.length) (xs.foldl (· + ·) a) := by
  induction xs with
  | nil => intro a m h _; exact h.mono (by omega)
  | cons y ys ih =>
    intro a m ha hx
    have e : (n + 1) * (y :: ys).length = (n + 1) * ys.length + (n + 1) := by rw [List.length_cons, Nat.mul_succ]
    rw [e]
    exact (ih (m := m + n + 1) (ha.add (hx y (by simp))) (fun x hx' => hx x (by simp [hx']))).mono (by omega)
theorem sz_sumR {n : Nat} {xs : List Rat} (h : ∀ x ∈ xs, Sz n x) : Sz (1 + (n + 1) * xs.length) (sumR xs) := sz_foldl sz0 h
def lcmD (xs : List Rat) : Nat := xs.foldl (fun b x => Nat.lcm b x.den) 1
def wholesL (xs : List Rat) : List Int := xs.map fun x => x.num * ((lcmD xs : Nat) : Int).fdiv (x.den : Int)
/-- one bound of the denominators -/
def WhP (xs : List Rat) : Prop := ∃ D : Nat, 0 < D ∧ D < 2 ^ 9000 ∧ ∀ x ∈ xs, x.den ∣ D ∧ x.num.natAbs < 2 ^ 20000
theorem foldl_lcm_dvd {D : Nat} {xs : List Rat} : ∀ {b : Nat}, b ∣ D → (∀ x ∈ xs, x.den ∣ D) → xs.foldl (fun b x => Nat.lcm b x.den) b ∣ D := by
  induction xs with
  | nil => intro b h _; exact h
  | cons y ys ih => intro b h hx; exact ih (Nat.lcm_dvd h (hx y (by simp))) (fun x hx' => hx x (by simp [hx']))
theorem lcmD_dvd {D : Nat} {xs : List Rat} (h : ∀ x ∈ xs, x.den ∣ D) : lcmD xs ∣ D := foldl_lcm_dvd (Nat.one_dvd D) h
theorem foldl_lcm_ge {xs : List Rat} : ∀ {b : Nat}, b ∣ xs.foldl (fun b x => Nat.lcm b x.den) b ∧ ∀ x ∈ xs, x.den ∣ xs.foldl (fun b x => Nat.lcm b x.den) b := by
  induction xs with
  | nil => intro b; exact ⟨Nat.dvd_refl b, fun x h => by simp at h⟩
  | cons y ys ih =>
    intro b
    have h := @ih (Nat.lcm b y.den)
    refine ⟨Nat.dvd_trans (Nat.dvd_lcm_left b y.den) h.1, fun x hx => ?_⟩
    rcases List.mem_cons.mp hx with e | e
    · subst e
      exact Nat.dvd_trans (Nat.dvd_lcm_right b x.den) h.1
    · exact h.2 x e
theorem den_dvd_lcmD {xs : List Rat} {x : Rat} (h : x ∈ xs) : x.den ∣ lcmD xs := foldl_lcm_ge.2 x h
/-! ### solved -/
def Bd (n : Nat) (row : List Int) : Prop := ∀ x ∈ row, x.natAbs < 2 ^ n
def gcdL (row : List Int) : Nat := row.foldl (fun c n => if n = 0 then c else Nat.gcd c n.natAbs) 0
def bareR (row : List Int) : List Int := if gcdL row > 1 then row.map fun n => n.fdiv ((gcdL row : Nat) : Int) else row
def clearedR (row head : List Int) (p : Nat) : List Int := if row[p]! = 0 then row else bareR ((row.zip head).map fun q => head[p]! * q.1 - row[p]! * q.2)
def firstAt (rows : List (List Int)) (p : Nat) : Int := match rows.findIdx? (fun r => decide (r[p]! ≠ 0)) with
  | some i => (i : Int)
  | none => -1
def headedR (row : List Int) (p : Nat) : List Int := if (bareR row)[p]! > 0 then bareR row else (bareR row).map fun n => 0 - n
structure St2 where
  left : List (List Int)
  found : List (List Int)
def stepI (p : Nat) (s : St2) : St2 := match s.left.findIdx? (fun r => decide (r[p]! ≠ 0)) with
  | some i => ⟨(s.left.take i ++ s.left.drop (i + 1)).map fun r => clearedR r (headedR s.left[i]! p) p, (s.found.map fun r => clearedR r (headedR s.left[i]! p) p) ++ [headedR s.left[i]! p]⟩
  | none => s
def wid (rows : List (List Int)) : Nat := if rows.length > 0 then rows[0]!.length else 0
def stepsTo (rows : List (List Int)) (k : Nat) : St2 := (List.range k).foldl (fun s p => stepI p s) ⟨rows, []⟩
def int_stepsR (rows : List (List Int)) : List (List Int) := (stepsTo rows (wid rows)).found
theorem stepsTo_succ (rows : List (List Int)) (k : Nat) : stepsTo rows (k + 1) = stepI k (stepsTo rows k) := by
  unfold stepsTo
  rw [List.range_succ, List.foldl_append]
  rfl
def headOf (row : List Int) : Nat := row.findIdx (fun n => decide (n ≠ 0))
def told_rowR (row : List Int) : List Rat := row.map fun n => Rat.divInt n row[headOf row]!
def steps_ofR (rows : List (List Rat)) : List (List Rat) := (int_stepsR (rows.map wholesL)).map told_rowR
/-! sizes -/
theorem Bd.mono {n m : Nat} {row : List Int} (h : Bd n row) (hm : n ≤ m) : Bd m row := fun x hx => Nat.lt_of_lt_of_le (h x hx) (Nat.pow_le_pow_right (by omega) hm)
theorem Bd.get {n : Nat} {row : List Int} (h : Bd n row) {p : Nat} (hp : p < row.length) : (row[p]!).natAbs < 2 ^ n := by
  rw [getElem!_pos row p hp]
  exact h _ (List.getElem_mem hp)
theorem gcdL_take_succ {row : List Int} {i : Nat} {x : Int} (h : row[i]? = some x) : gcdL (row.take (i + 1)) = if x = 0 then gcdL (row.take i) else Nat.gcd (gcdL (row.take i)) x.natAbs := by
  unfold gcdL
  rw [foldl_take h]
theorem gcdL_bd {n : Nat} {row : List Int} (h : Bd n row) : gcdL row < 2 ^ n := by
  unfold gcdL
  have all : ∀ (row : List Int) (c : Nat), c < 2 ^ n → (∀ x ∈ row, x.natAbs < 2 ^ n) → row.foldl (fun c n => if n = 0 then c else Nat.gcd c n.natAbs) c < 2 ^ n := by
    intro row
    induction row with
    | nil => intro c h _; exact h
    | cons x xs ih =>
      intro c hc hx
      rw [List.foldl_cons]
      refine ih _ ?_ (fun y hy => hx y (by simp [hy]))
      split
      · exact hc
      · exact Nat.lt_of_le_of_lt (Nat.le_of_dvd (by omega) (Nat.gcd_dvd_right _ _)) (hx x (by simp))
  exact all row 0 (Nat.two_pow_pos n) h
theorem natAbs_fdiv_le (a : Int) (b : Nat) : (a.fdiv (b : Int)).natAbs ≤ a.natAbs := by
  by_cases hb : b = 0
  · subst hb; simp
  · rw [Int.fdiv_eq_ediv_of_nonneg _ (by omega)]
    have : 0 < (b : Int) := by omega
    have h1 : a / (b : Int) * b ≤ a := Int.ediv_mul_le a (by omega)
    rcases Int.le_total 0 a with h | h
    · have h2 : 0 ≤ a / (b : Int) := Int.ediv_nonneg h (by omega)
      have h3 : a / (b : Int) ≤ a := Int.ediv_le_self _ h
      omega
    · have h2 : a ≤ a / (b : Int) := by
        rw [Int.le_ediv_iff_mul_le (by omega)]
        have := Int.mul_le_mul_of_nonpos_left (a := a) (b := (b : Int)) (c := 1) h (by omega)
        omega
      have h3 : a / (b : Int) ≤ 0 := by
        rcases Int.lt_or_le 0 (a / (b : Int)) with h4 | h4
        · have h5 : (1 : Int) ≤ a / (b : Int) := h4
          rw [Int.le_ediv_iff_mul_le (by omega)] at h5
          omega
        · exact h4
      omega
theorem bareR_bd {n : Nat} {row : List Int} (h : Bd n row) : Bd n (bareR row) := by
  unfold bareR
  split
  · intro x hx
    obtain ⟨y, hy, rfl⟩ := List.mem_map.mp hx
    exact Nat.lt_of_le_of_lt (natAbs_fdiv_le y _) (h y hy)
  · exact h
theorem bareR_len (row : List Int) : (bareR row).length = row.length := by
  unfold bareR
  split <;> simp
theorem clearedR_len {row head : List Int} {p : Nat} (h : row.length = head.length) : (clearedR row head p).length = row.length := by
  unfold clearedR
  split
  · rfl
  · rw [bareR_len]; simp [h]
theorem clearedR_bd {n : Nat} {row head : List Int} {p : Nat} (hr : Bd n row) (hh : Bd n head) (h1 : p < row.length) (h2 : p < head.length) : Bd (2 * n + 1) (clearedR row head p) := by
  unfold clearedR
  split
  · exact hr.mono (by omega)
  · refine bareR_bd fun x hx => ?_
    obtain ⟨q, hq, rfl⟩ := List.mem_map.mp hx
    obtain ⟨m1, m2⟩ := List.of_mem_zip hq
    have a1 : (head[p]! * q.1).natAbs < 2 ^ n * 2 ^ n := by rw [Int.natAbs_mul]; exact Nat.mul_lt_mul'' (hh.get h2) (hr _ m1)
    have a2 : (row[p]! * q.2).natAbs < 2 ^ n * 2 ^ n := by rw [Int.natAbs_mul]; exact Nat.mul_lt_mul'' (hr.get h1) (hh _ m2)
    have e : (2 : Nat) ^ (2 * n + 1) = 2 * (2 ^ n * 2 ^ n) := by rw [Nat.pow_succ, Nat.two_mul, Nat.pow_add]; omega
    omega
theorem headedR_len (row : List Int) (p : Nat) : (headedR row p).length = row.length := by
  unfold headedR
  split <;> simp [bareR_len]
theorem headedR_bd {n : Nat} {row : List Int} (h : Bd n row) (p : Nat) : Bd n (headedR row p) := by
  unfold headedR
  split
  · exact bareR_bd h
  · intro x hx
    obtain ⟨y, hy, rfl⟩ := List.mem_map.mp hx
    have := bareR_bd h y hy
    omega
/-- the rows at a step: width m, entries of b bits -/
structure Rect (m b : Nat) (rows : List (List Int)) : Prop where
  len : ∀ r ∈ rows, r.length = m
  bd : ∀ r ∈ rows, Bd b r
def bits (b k : Nat) : Nat := (b + 1) * 2 ^ k - 1
theorem bits_succ (b k : Nat) : bits b (k + 1) = 2 * bits b k + 1 := by
  unfold bits
  rw [Nat.pow_succ]
  have : 0 < (b + 1) * 2 ^ k := Nat.mul_pos (by omega) (Nat.two_pow_pos k)
  have e : (b + 1) * (2 ^ k * 2) = 2 * ((b + 1) * 2 ^ k) := by rw [← Nat.mul_assoc]; omega
  rw [e]
  omega
theorem bits_mono {b j k : Nat} (h : j ≤ k) : bits b j ≤ bits b k := by
  unfold bits
  have : (b + 1) * 2 ^ j ≤ (b + 1) * 2 ^ k := Nat.mul_le_mul_left _ (Nat.pow_le_pow_right (by omega) h)
  omega
theorem bits_zero (b : Nat) : bits b 0 = b := by unfold bits; simp
/-- the steps keep these -/
structure StOk (m b n : Nat) (s : St2) : Prop where
  l : Rect m (bits b s.found.length) s.left
  f : Rect m (bits b s.found.length) s.found
  n : s.left.length + s.found.length = n
theorem findIdx_some {α : Type} {p : α → Bool} {xs : List α} {i : Nat} (h : xs.findIdx? p = some i) : ∃ hi : i < xs.length, p xs[i] = true ∧ ∀ j (hj : j < i), p (xs[j]'(by omega)) = false := by
  obtain ⟨hi, h1, h2⟩ := List.findIdx?_eq_some_iff_getElem.mp h
  exact ⟨hi, h1, fun j hj => by simpa using h2 j hj⟩
theorem stepI_ok {m b n p : Nat} {s : St2} (h : StOk m b n s) (hp : p < m) : StOk m b n (stepI p s) := by
  unfold stepI
  split
  · rename_i i hi
    obtain ⟨hl, _, _⟩ := findIdx_some hi
    have hm : s.left[i]! ∈ s.left := by rw [getElem!_pos s.left i hl]; exact List.getElem_mem hl
    have hhl : (headedR s.left[i]! p).length = m := by rw [headedR_len]; exact h.l.len _ hm
    have hhb : Bd (bits b s.found.length) (headedR s.left[i]! p) := headedR_bd (h.l.bd _ hm) p
    have hlen : ((s.found.map fun r => clearedR r (headedR s.left[i]! p) p) ++ [headedR s.left[i]! p]).length = s.found.length + 1 := by simp
    have sub : ∀ r ∈ s.left.take i ++ s.left.drop (i + 1), r ∈ s.left := fun r hr => by
      rcases List.mem_append.mp hr with q | q
      · exact List.mem_of_mem_take q
      · exact List.mem_of_mem_drop q
    refine ⟨⟨fun r hr => ?_, fun r hr => ?_⟩, ⟨fun r hr => ?_, fun r hr => ?_⟩, ?_⟩
    · obtain ⟨y, hy, rfl⟩ := List.mem_map.mp hr
      rw [clearedR_len (by rw [hhl]; exact h.l.len _ (sub y hy))]
      exact h.l.len _ (sub y hy)
    · obtain ⟨y, hy, rfl⟩ := List.mem_map.mp hr
      show Bd (bits b _) _
      rw [hlen, bits_succ]
      exact clearedR_bd (h.l.bd _ (sub y hy)) hhb (by rw [h.l.len _ (sub y hy)]; exact hp) (by rw [hhl]; exact hp)
    · rcases List.mem_append.mp hr with q | q
      · obtain ⟨y, hy, rfl⟩ := List.mem_map.mp q
        rw [clearedR_len (by rw [hhl]; exact h.f.len _ hy)]
        exact h.f.len _ hy
      · rw [List.mem_singleton.mp q]
        exact hhl
    · show Bd (bits b _) _
      rw [hlen, bits_succ]
      rcases List.mem_append.mp hr with q | q
      · obtain ⟨y, hy, rfl⟩ := List.mem_map.mp q
        exact clearedR_bd (h.f.bd _ hy) hhb (by rw [h.f.len _ hy]; exact hp) (by rw [hhl]; exact hp)
      · rw [List.mem_singleton.mp q]
        exact hhb.mono (by omega)
    · show (List.map _ _).length + _ = n
      rw [hlen, List.length_map, List.length_append, List.length_take, List.length_drop]
      have := h.n
      omega
  · exact h
theorem stepsTo_ok {m b : Nat} {rows : List (List Int)} (h : Rect m b rows) : ∀ k, k ≤ m → StOk m b rows.length (stepsTo rows k)
  | 0, _ => by
    refine ⟨?_, ⟨fun r hr => by simp [stepsTo] at hr, fun r hr => by simp [stepsTo] at hr⟩, by simp [stepsTo]⟩
    show Rect m (bits b 0) rows
    rw [bits_zero]
    exact h
  | k + 1, hk => by
    rw [stepsTo_succ]
    exact stepI_ok (stepsTo_ok h k (by omega)) (by omega)
theorem wid_eq {m b : Nat} {rows : List (List Int)} (h : Rect m b rows) (hn : 0 < rows.length) : wid rows = m := by
  unfold wid
  rw [if_pos hn, getElem!_pos rows 0 hn]
  exact h.len _ (List.getElem_mem hn)
end Gw
set_option maxHeartbeats 4000000
namespace Gw
open PySem PySem.Spec PyProof.Rows L2
section
variable {P : Program} {w : World} {K : PySem.W.Frag} {mg : Str → Option Value} {base : Heap} {C : Addr}
theorem line_of {n m : Nat} (h : n ≤ m) (hm : m < 100000 := by decide) : n < sizeLine := by
  have : (100000 : Nat) ≤ sizeLine := by decide
  omega
abbrev sp_is_list (_ : Addr) : Sp := Pr (ι := Unit) (fun _ => [IsLT]) (fun _ => True) (fun _ => IsB true)
abbrev Kn_is_list (P : Program) (w : World) (K : PySem.W.Frag) (mg : Str → Option Value) (base : Heap) (C : Addr) : Prop := Kn P w K mg base "is_list" 1 ["value"] (sp_is_list C)
theorem ok_is_list (Z : Glo K mg C)  {f : Addr} {fd : FuncData} (Fd : FnP K "is_list" st_is_list f fd) : FnOk P w K mg base CX0 1 f fd ["value"] (sp_is_list C) := by
  refine fn_pr Fd sc_is_list (fun u => by first | rfl | (cases u <;> rfl)) (fun _ => False) (fun _ _ h => h.elim) (fun X u E hX hp hE => ?_)
  obtain ⟨cdv, A, outer, s, H, E', rfl, hr⟩ := hX
  refine PSs.nox ?_
  have nd := (sc_is_list).nd
  replace hr : Room 0 (cxOf CX0 P w K mg base N_is_list "is_list" (defScope st_is_list) f cdv A outer s H E').nox.A := hr
  refine js_or (i := 0) (R1 := IsAL) (R2 := IsAT) rfl (fun v F F' h e => let ⟨a, vs, h1, h2⟩ := h; ⟨a, vs, h1, e _ _ h2⟩) (fun v F F' h e => let ⟨a, vs, h1, h2⟩ := h; ⟨a, vs, h1, e _ _ h2⟩) ?_ ?_
  · exact js_one (js_ret (jbB call_isiT Z.isi boot_isinstance (ja_cons (jv 0 (R := IsAL)) (ja_cons (je_tup (Rs := [IsC (.ty "list"), IsC (.ty "tuple")]) (pe_tup (ja_cons (jty Z.list boot_list) (ja_cons (jty Z.tuple boot_tuple) ja_nil)))) ja_nil)) (isi_al (cs := [.ty "list", .ty "tuple"]) (us := [.type "list", .type "tuple"]) (.cons (.ty _) (.cons (.ty _) .nil)) (kitAny_cons (b := true) (kit_ty (by decide +kernel)) (fun h => nomatch h) (fun _ => rfl)))))
  · exact js_one (js_ret (jbB call_isiT Z.isi boot_isinstance (ja_cons (jv 0 (R := IsAT)) (ja_cons (je_tup (Rs := [IsC (.ty "list"), IsC (.ty "tuple")]) (pe_tup (ja_cons (jty Z.list boot_list) (ja_cons (jty Z.tuple boot_tuple) ja_nil)))) ja_nil)) (isi_at (cs := [.ty "list", .ty "tuple"]) (us := [.type "list", .type "tuple"]) (.cons (.ty _) (.cons (.ty _) .nil)) (kitAny_cons (b := false) (kit_ty (by decide +kernel)) (fun _ => kitAny_cons (b := true) (kit_ty (by decide +kernel)) (fun h => nomatch h) (fun _ => rfl)) (fun h => nomatch h)))))
abbrev sp_total_of (C : Addr) : Sp := Pr (ι := List Rat) (fun xs => [IsL (IsQ C) xs]) (fun xs => FitsL 0 xs) (fun xs => IsQ C (sumR xs))
abbrev Kn_total_of (P : Program) (w : World) (K : PySem.W.Frag) (mg : Str → Option Value) (base : Heap) (C : Addr) : Prop := Kn P w K mg base "total_of" 7 ["ratios"] (sp_total_of C)
theorem ok_total_of (Z : Glo K mg C) (mk : Mkr P w K mg base C 2) (oadd : Opr P w K mg base C .Add 6 (fun w => Fits w.1 w.2) (· + ·)) {f : Addr} {fd : FuncData} (Fd : FnP K "total_of" st_total_of f fd) : FnOk P w K mg base CX0 7 f fd ["ratios"] (sp_total_of C) := by
  refine fn_pr Fd sc_total_of (fun u => by first | rfl | (cases u <;> rfl)) (fun _ => False) (fun _ _ h => h.elim) (fun X u E hX hp hE => ?_)
  obtain ⟨cdv, A, outer, s, H, E', rfl, hr⟩ := hX
  refine PSs.nox ?_
  have nd := (sc_total_of).nd
  replace hr : Room 6 (cxOf CX0 P w K mg base N_total_of "total_of" (defScope st_total_of) f cdv A outer s H E').nox.A := hr
  rename List Rat => xs
  refine js_seq (js_set (ps_set (i := 1) nd rfl (.inl rfl) (jmk1 mk (hr.mono (by decide)) (ja_cons jI ja_nil)))) ?_
  refine js_cons (N1 := fun G => ∃ s, G = [.fz (IsL (IsQ C) xs), .fz (IsQ C (sumR xs)), s]) (js_for PassesOwn.never rfl (ji_list (Rx := IsQ C) (xs := xs) (pi_list (jv 0))) (fun x => jg1 2 nd) (fun i G => ∃ s, G = [.fz (IsL (IsQ C) xs), .fz (IsQ C ((xs.take i).foldl (· + ·) 0)), s]) ⟨_, rfl⟩ ?_ (fun G1 h => by rwa [List.take_length] at h)) ?_
  · rintro i x G1 hx ⟨s, rfl⟩
    refine js_one (js_N (js_set (R := IsQ C ((xs.take (i + 1)).foldl (· + ·) 0)) (ps_set (i := 1) nd rfl (.inl rfl) (joQ oadd (hr.mono (by decide)) (jv 1) (jv 2) (FitsL.at hp hx) (by rw [foldl_take hx])))) ?_)
    rintro G' rfl
    exact ⟨_, rfl⟩
  · rintro _ ⟨s, rfl⟩
    exact js_one (js_ret (jv 1))
abbrev sp_wholes (C : Addr) : Sp := Pr (ι := List Rat) (fun xs => [IsL (IsQ C) xs]) (fun xs => WhP xs ∧ xs.length ≤ 1000) (fun xs => IsTp [IsU (lcmD xs), IsL IsI (wholesL xs)])
abbrev Kn_wholes (P : Program) (w : World) (K : PySem.W.Frag) (mg : Str → Option Value) (base : Heap) (C : Addr) : Prop := Kn P w K mg base "wholes" 1 ["ratios"] (sp_wholes C)
theorem ok_wholes (Z : Glo K mg C)  {f : Addr} {fd : FuncData} (Fd : FnP K "wholes" st_wholes f fd) : FnOk P w K mg base CX0 1 f fd ["ratios"] (sp_wholes C) := by
  refine fn_pr Fd sc_wholes (fun u => by first | rfl | (cases u <;> rfl)) (fun _ => False) (fun _ _ h => h.elim) (fun X u E hX hp hE => ?_)
  obtain ⟨cdv, A, outer, s, H, E', rfl, hr⟩ := hX
  refine PSs.nox ?_
  have nd := (sc_wholes).nd
  replace hr : Room 0 (cxOf CX0 P w K mg base N_wholes "wholes" (defScope st_wholes) f cdv A outer s H E').nox.A := hr
  rename List Rat => xs
  obtain ⟨⟨D, hD0, hD, hx⟩, hz⟩ := hp
  have hl : ∀ ys : List Rat, (∀ y ∈ ys, y ∈ xs) → lcmD ys < 2 ^ 9000 := fun ys hy => Nat.lt_of_le_of_lt (Nat.le_of_dvd hD0 (lcmD_dvd fun y h => (hx y (hy y h)).1)) hD
  have hden : ∀ x ∈ xs, x.den < 2 ^ 9000 := fun x h => Nat.lt_of_le_of_lt (Nat.le_of_dvd hD0 (hx x h).1) hD
  refine js_seq (js_set (R := IsU 1) (ps_set (i := 1) nd rfl (.inr rfl) jI)) ?_
  refine js_cons (N1 := fun G => ∃ s, G = [.fz (IsL (IsQ C) xs), .fz (IsU (lcmD xs)), s]) (js_for PassesOwn.never rfl (ji_list (Rx := IsQ C) (xs := xs) (pi_list (jv 0))) (fun x => jg1 2 nd) (fun i G => ∃ s, G = [.fz (IsL (IsQ C) xs), .fz (IsU (lcmD (xs.take i))), s]) ⟨_, rfl⟩ ?_ (fun G1 h => by rwa [List.take_length] at h)) ?_
  · rintro i x G1 hi ⟨s, rfl⟩
    have m1 : x ∈ xs := List.mem_of_getElem? hi
    have b1 := hl (xs.take i) (fun y h => List.mem_of_mem_take h)
    have b2 := hden x m1
    have b3 := hl (xs.take (i + 1)) (fun y h => List.mem_of_mem_take h)
    have e : Nat.lcm (lcmD (xs.take i)) x.den = lcmD (xs.take (i + 1)) := by unfold lcmD; rw [foldl_take hi]
    have o1 : (1 : Nat) < 2 ^ 9000 := Nat.one_lt_two_pow (by decide)
    refine js_one (js_N (js_set (R := IsU (lcmD (xs.take (i + 1)))) (ps_set (i := 1) nd rfl (.inr rfl) (je_eq (jbF cr_lcm Z.lcm (ja_cons (jv 1) (ja_cons (je_bot Z.F (jv 2)) ja_nil)) (rc_lcm ?_ ?_ ?_)) ?_))) ?_)
    · rw [Int.natAbs_natCast]
      exact Nat.lt_of_lt_of_le (log2_lt (n := 9000) (by decide) (by omega)) (by decide)
    · rw [Int.natAbs_natCast, Int.natAbs_natCast]
      exact Nat.lt_of_lt_of_le (log2_lt (n := 9000) (by decide) (by omega)) (by decide)
    · rw [Int.natAbs_natCast, Int.natAbs_natCast, e]
      exact Nat.lt_of_lt_of_le (log2_lt (n := 9000) (by decide) b3) (by decide)
    · rw [Int.natAbs_natCast, Int.natAbs_natCast, e]
    · rintro G' rfl
      exact ⟨_, rfl⟩
  · rintro _ ⟨s, rfl⟩
    refine js_one (js_ret (je_tup (pe_tup (ja_cons (jv 1) (ja_cons (je_m (jlc (fun x => x.num * ((lcmD xs : Nat) : Int).fdiv (x.den : Int)) [("ratio", 2)] nd (ji_list (Rx := IsQ C) (xs := xs) (pi_list (jv 0))) (fun s H C cl fp x => jg1 2 nd) (fun s H C cl fp x hx1 => ?_) (line_of hz))) ja_nil)))))
    have b := hl xs (fun y h => h)
    have d1 := hden x hx1
    exact je_op (pe_op op_mulW (je_top Z.F (jv 2)) (je_op (pe_op op_fdW (jv 1) (je_bot Z.F (jv 2))) (rop_fdW ⟨q_den0 x, by rw [Int.natAbs_natCast]; exact log2_lt (by decide) d1⟩))) (rop_mulW (mulW_of (n := 20000) (m := 9000) (hx x hx1).2 (Nat.lt_of_le_of_lt (natAbs_fdiv_le _ _) (by rw [Int.natAbs_natCast]; exact b)) (by decide) (by decide) (by decide)))
abbrev sp_Rtotal (C : Addr) : Sp := Pr (ι := List Rat) (fun xs => [IsC (.ref C), IsL (IsQ C) xs]) (fun xs => FitsL 0 xs ∧ xs.length ≤ 1000) (fun xs => IsQ C (sumR xs))
theorem ok_Rtotal (Z : Glo K mg C) (k_is_list : Kn_is_list P w K mg base C) (k_total_of : Kn_total_of P w K mg base C) (k_want_number : Kn_want_number P w K mg base C) {f : Addr} {fd : FuncData} (Fd : FnM K "total" "Ratio.total" st_Rtotal f fd) : FnOk P w K mg base CX0 8 f fd ["cls", "numbers"] (sp_Rtotal C) := by
  refine fn_pr Fd sc_Rtotal (fun u => by first | rfl | (cases u <;> rfl)) (fun _ => False) (fun _ _ h => h.elim) (fun X u E hX hp hE => ?_)
  obtain ⟨cdv, A, outer, s, H, E', rfl, hr⟩ := hX
  refine PSs.nox ?_
  have nd := (sc_Rtotal).nd
  replace hr : Room 7 (cxOf CX0 P w K mg base N_Rtotal "Ratio.total" (defScope st_Rtotal) f cdv A outer s H E').nox.A := hr
  rename List Rat => xs
  refine js_seq (G1 := G0 [IsC (.ref C), IsL (IsQ C) xs] 3) (js_if (b1 := false) (jt_not (b1 := true) (jt_val (pt_val (jc k_is_list (hr.mono (by decide)) () (ja_cons (je_conv (jv 1) lst_lt) ja_nil) trivial)))) (fun h => nomatch h) (fun _ => js_nil rfl)) ?_
  refine js_one (js_ret (jc k_total_of hr xs (ja_cons (je_eq (je_m (jlc (fun x => x) [("number", 2)] nd (ji_list (Rx := IsQ C) (xs := xs) (pi_list (jv 1))) (fun s H C cl fp x => jg1 2 nd) (fun s H C cl fp x hx => jc k_want_number (hr.mono (by decide)) x (ja_cons (je_conv (jv 2) isQ_nm) ja_nil) trivial) (line_of hp.2))) (by rw [List.map_id'])) ja_nil) hp.1))
/-! ### solved -/
abbrev sp_ints_of (C : Addr) : Sp := Pr (ι := List (List Rat)) (fun xs => [IsL (IsL (IsQ C)) xs]) (fun xs => (∀ x ∈ xs, WhP x ∧ x.length ≤ 1000) ∧ xs.length ≤ 1000) (fun xs => IsL (IsL IsI) (xs.map wholesL))
abbrev Kn_ints_of (P : Program) (w : World) (K : PySem.W.Frag) (mg : Str → Option Value) (base : Heap) (C : Addr) : Prop := Kn P w K mg base "ints_of" 2 ["rows"] (sp_ints_of C)
theorem ok_ints_of (Z : Glo K mg C) (k_wholes : Kn_wholes P w K mg base C) {f : Addr} {fd : FuncData} (Fd : FnP K "ints_of" st_ints_of f fd) : FnOk P w K mg base CX0 2 f fd ["rows"] (sp_ints_of C) := by
  refine fn_pr Fd sc_ints_of (fun u => by first | rfl | (cases u <;> rfl)) (fun _ => False) (fun _ _ h => h.elim) (fun X u E hX hp hE => ?_)
  obtain ⟨cdv, A, outer, s, H, E', rfl, hr⟩ := hX
  refine PSs.nox ?_
  have nd := (sc_ints_of).nd
  replace hr : Room 1 (cxOf CX0 P w K mg base N_ints_of "ints_of" (defScope st_ints_of) f cdv A outer s H E').nox.A := hr
  rename List (List Rat) => xs
  exact js_one (js_ret (je_m (jlc wholesL [("row", 1)] nd (ji_list (Rx := IsL (IsQ C)) (xs := xs) (pi_list (jv 0))) (fun s H C cl fp x => jg1 1 nd) (fun s H C cl fp x hx => je_op (pe_ix ix_tup (jc k_wholes hr x (ja_cons (jv 1) ja_nil) (hp.1 x hx)) jI (fun _ _ => rfl)) (rop_ixT (j := 1) rfl)) (line_of hp.2))))
abbrev sp_bare_row (_ : Addr) : Sp := Pr (ι := List Int) (fun xs => [IsL IsI xs]) (fun xs => Bd 9000 xs ∧ xs.length ≤ 1000) (fun xs => IsL IsI (bareR xs))
abbrev Kn_bare_row (P : Program) (w : World) (K : PySem.W.Frag) (mg : Str → Option Value) (base : Heap) (C : Addr) : Prop := Kn P w K mg base "bare_row" 2 ["row"] (sp_bare_row C)
theorem ok_bare_row (Z : Glo K mg C) (k_divisor_of : Kn_divisor_of P w K mg base C) {f : Addr} {fd : FuncData} (Fd : FnP K "bare_row" st_bare_row f fd) : FnOk P w K mg base CX0 2 f fd ["row"] (sp_bare_row C) := by
  refine fn_pr Fd sc_bare_row (fun u => by first | rfl | (cases u <;> rfl)) (fun _ => False) (fun _ _ h => h.elim) (fun X u E hX hp hE => ?_)
  obtain ⟨cdv, A, outer, s, H, E', rfl, hr⟩ := hX
  refine PSs.nox ?_
  have nd := (sc_bare_row).nd
  replace hr : Room 1 (cxOf CX0 P w K mg base N_bare_row "bare_row" (defScope st_bare_row) f cdv A outer s H E').nox.A := hr
  rename List Int => xs
  refine js_seq (js_set (R := IsU 0) (ps_set (i := 1) nd rfl (.inr rfl) jI)) ?_
  refine js_cons (N1 := fun G => ∃ s, G = [.fz (IsL IsI xs), .fz (IsU (gcdL xs)), s]) (js_for PassesOwn.never rfl (ji_list (Rx := IsI) (xs := xs) (pi_list (jv 0))) (fun x => jg1 2 nd) (fun i G => ∃ s, G = [.fz (IsL IsI xs), .fz (IsU (gcdL (xs.take i))), s]) ⟨_, rfl⟩ ?_ (fun G1 h => by rwa [List.take_length] at h)) ?_
  · rintro i x G1 hi ⟨s, rfl⟩
    refine js_one (js_if (b1 := !decide (x = 0)) (jt_cmp (pt_cmpR op_ne (jv 2) jI (nomark _)) rop_neI) (fun h => js_one (js_N (js_set (R := IsU (gcdL (xs.take (i + 1)))) (ps_set (i := 1) nd rfl (.inr rfl) (je_eq (jc k_divisor_of hr (((gcdL (xs.take i) : Nat) : Int), x) (ja_cons (jv 1) (ja_cons (jv 2) ja_nil)) trivial) ?_))) ?_)) (fun h => js_nil ?_))
    · have h : x ≠ 0 := by simpa using h
      show IsU _ = IsU _
      rw [gcdL_take_succ hi, if_neg h, Int.natAbs_natCast]
    · rintro G' rfl
      exact ⟨_, rfl⟩
    · have h : x = 0 := by simpa using h
      refine ⟨.fz (IsI x), ?_⟩
      rw [gcdL_take_succ hi, if_pos h]
      rfl
  · rintro _ ⟨s, rfl⟩
    refine js_one (js_ret (je_if (b1 := decide ((1 : Int) < (gcdL xs : Nat))) (jt_cmp (pt_cmpR op_gt (jv 1) jI (nomark _)) rop_gt) (fun h => je_eq (je_m (jlc (fun n => n.fdiv ((gcdL xs : Nat) : Int)) [("number", 2)] nd (ji_list (Rx := IsI) (xs := xs) (pi_list (jv 0))) (fun s H C cl fp x => jg1 2 nd) (fun s H C cl fp x hx => je_op (pe_op op_fdW (jv 2) (jv 1)) (rop_fdW ?_)) (line_of hp.2))) ?_) (fun h => je_eq (jv 0) ?_)))
    · have h := of_decide_eq_true h
      refine ⟨by omega, ?_⟩
      rw [Int.natAbs_natCast]
      exact log2_lt (by decide) (gcdL_bd hp.1)
    · have h := of_decide_eq_true h
      unfold bareR
      rw [if_pos (by omega)]
    · have h := of_decide_eq_false h
      unfold bareR
      rw [if_neg (by omega)]
abbrev sp_cleared (_ : Addr) : Sp := Pr (ι := List Int × List Int × Nat) (fun w => [IsL IsI w.1, IsL IsI w.2.1, IsU w.2.2]) (fun w => Bd 4000 w.1 ∧ Bd 4000 w.2.1 ∧ w.2.2 < w.1.length ∧ w.1.length = w.2.1.length ∧ w.1.length ≤ 1000) (fun w => IsL IsI (clearedR w.1 w.2.1 w.2.2))
abbrev Kn_cleared (P : Program) (w : World) (K : PySem.W.Frag) (mg : Str → Option Value) (base : Heap) (C : Addr) : Prop := Kn P w K mg base "cleared" 3 ["row", "head", "place"] (sp_cleared C)
theorem ok_cleared (Z : Glo K mg C) (k_bare_row : Kn_bare_row P w K mg base C) {f : Addr} {fd : FuncData} (Fd : FnP K "cleared" st_cleared f fd) : FnOk P w K mg base CX0 3 f fd ["row", "head", "place"] (sp_cleared C) := by
  refine fn_pr Fd sc_cleared (fun u => by first | rfl | (cases u <;> rfl)) (fun _ => False) (fun _ _ h => h.elim) (fun X u E hX hp hE => ?_)
  obtain ⟨cdv, A, outer, s, H, E', rfl, hr⟩ := hX
  refine PSs.nox ?_
  have nd := (sc_cleared).nd
  replace hr : Room 2 (cxOf CX0 P w K mg base N_cleared "cleared" (defScope st_cleared) f cdv A outer s H E').nox.A := hr
  obtain ⟨row, head, p⟩ := u
  obtain ⟨b1, b2, h1, h2, hz⟩ := hp
  have b1 : Bd 4000 row := b1
  have b2 : Bd 4000 head := b2
  have h1 : p < row.length := h1
  have h2 : row.length = head.length := h2
  have hz : row.length ≤ 1000 := hz
  refine js_cons (N1 := fun G => row[p]! ≠ 0 ∧ G = G0 [IsL IsI row, IsL IsI head, IsU p] 5) (js_if (b1 := decide (row[p]! = 0)) (jt_cmp (pt_cmpR op_eq (je_op (pe_ix ix_list (jv 0 (R := IsL IsI row)) (jv 2 (R := IsU p)) (fun _ _ => rfl)) (rop_ixB h1)) jI (nomark _)) rop_eqI) (fun h => js_one (js_ret (je_eq (jv 0) ?_))) (fun h => js_nil ⟨of_decide_eq_false h, rfl⟩)) ?_
  · show IsL IsI row = IsL IsI (clearedR row head p)
    unfold clearedR
    rw [if_pos (of_decide_eq_true h)]
  · rintro _ ⟨h0, rfl⟩
    refine js_one (js_ret (jc k_bare_row hr _ (ja_cons (je_m (jlc (fun q : Int × Int => head[p]! * q.1 - row[p]! * q.2) [("near", 4), ("far", 3)] nd (ji_zip (Rx := IsI) (Ry := IsI) (xs := row) (ys := head) (pi_zip rfl Z.zip (ja_cons (jv 0) (ja_cons (jv 1) ja_nil)))) (fun s H C cl fp x => jg2 4 3 nd) (fun s H C cl fp x hx => ?_) (line_of (m := 1000) (by rw [List.length_zip]; omega)))) ja_nil) ?_ ?_))
    · obtain ⟨m1, m2⟩ := List.of_mem_zip hx
      exact je_op (pe_op op_sub (je_op (pe_op op_mulW (je_op (pe_ix ix_list (jv 1 (R := IsL IsI head)) (jv 2 (R := IsU p)) (fun _ _ => rfl)) (rop_ixB (by omega))) (jv 4)) (rop_mulW (mulW_of (b2.get (by omega)) (b1 _ m1) (by decide) (by decide) (by decide)))) (je_op (pe_op op_mulW (je_op (pe_ix ix_list (jv 0 (R := IsL IsI row)) (jv 2 (R := IsU p)) (fun _ _ => rfl)) (rop_ixB h1)) (jv 3)) (rop_mulW (mulW_of (b1.get h1) (b2 _ m2) (by decide) (by decide) (by decide))))) rop_sub
    · refine ⟨?_, by rw [List.length_map, List.length_zip]; omega⟩
      intro x hx
      obtain ⟨q, hq, rfl⟩ := List.mem_map.mp hx
      obtain ⟨m1, m2⟩ := List.of_mem_zip hq
      have a1 : (head[p]! * q.1).natAbs < 2 ^ 4000 * 2 ^ 4000 := by rw [Int.natAbs_mul]; exact Nat.mul_lt_mul'' (b2.get (by omega)) (b1 _ m1)
      have a2 : (row[p]! * q.2).natAbs < 2 ^ 4000 * 2 ^ 4000 := by rw [Int.natAbs_mul]; exact Nat.mul_lt_mul'' (b1.get h1) (b2 _ m2)
      have e : (2 : Nat) ^ 8001 = 2 * (2 ^ 4000 * 2 ^ 4000) := by rw [← Nat.pow_add, ← Nat.pow_succ']
      have e2 : (2 : Nat) ^ 8001 ≤ 2 ^ 9000 := Nat.pow_le_pow_right (by decide) (by decide)
      generalize (2 : Nat) ^ 4000 * 2 ^ 4000 = z at *
      generalize (2 : Nat) ^ 9000 = z9 at *
      generalize (2 : Nat) ^ 8001 = z8 at *
      omega
    · show IsL IsI _ = IsL IsI (clearedR row head p)
      unfold clearedR
      rw [if_neg h0]
end
end Gw
set_option maxHeartbeats 4000000
namespace Gw
open PySem PySem.Spec PyProof.Rows L2
theorem run_neg {pp : Option Addr} {i : Int} : RUn pp (rU fun i => .int (-i)) (IsI i) (IsI (-i)) := fun x F H Q ok u k => ⟨i, u.here, k _ F H ok.gr fun _ _ => rfl⟩
section
variable {P : Program} {w : World} {K : PySem.W.Frag} {mg : Str → Option Value} {base : Heap} {C : Addr}
abbrev sp_first_at (_ : Addr) : Sp := Pr (ι := List (List Int) × Nat) (fun w => [IsL (IsL IsI) w.1, IsU w.2]) (fun w => ∀ r ∈ w.1, w.2 < r.length) (fun w => IsI (firstAt w.1 w.2))
abbrev Kn_first_at (P : Program) (w : World) (K : PySem.W.Frag) (mg : Str → Option Value) (base : Heap) (C : Addr) : Prop := Kn P w K mg base "first_at" 1 ["rows", "place"] (sp_first_at C)
theorem ok_first_at (Z : Glo K mg C)  {f : Addr} {fd : FuncData} (Fd : FnP K "first_at" st_first_at f fd) : FnOk P w K mg base CX0 1 f fd ["rows", "place"] (sp_first_at C) := by
  refine fn_pr Fd sc_first_at (fun u => by first | rfl | (cases u <;> rfl)) (fun _ => False) (fun _ _ h => h.elim) (fun X u E hX hp hE => ?_)
  obtain ⟨cdv, A, outer, s, H, E', rfl, hr⟩ := hX
  refine PSs.nox ?_
  have nd := (sc_first_at).nd
  replace hr : Room 0 (cxOf CX0 P w K mg base N_first_at "first_at" (defScope st_first_at) f cdv A outer s H E').nox.A := hr
  obtain ⟨rows, p⟩ := u
  have hp : ∀ r ∈ rows, p < r.length := hp
  refine js_cons (N1 := fun G => (∀ j, j < rows.length → rows[j]![p]! = 0) ∧ ∃ s t, G = [.fz (IsL (IsL IsI) rows), .fz (IsU p), s, t]) (js_for PassesOwn.never rfl (ji_enumN (Rx := IsL IsI) (xs := rows) (pi_enum rfl Z.enum (ja_cons (jv 0) ja_nil))) (fun x => jg2 2 3 nd)
    (fun i G => (∀ j, j < i → rows[j]![p]! = 0) ∧ ∃ s t, G = [.fz (IsL (IsL IsI) rows), .fz (IsU p), s, t]) ⟨fun j h => absurd h (by omega), _, _, rfl⟩ ?_ (fun G1 h => by rwa [enumN_len] at h)) ?_
  · rintro i ⟨n, r⟩ G1 hi ⟨h0, s, t, rfl⟩
    obtain ⟨e1, e2⟩ := enumN_get hi
    have e1 : n = i := e1
    have e2 : rows[i]? = some r := e2
    subst e1
    have hm := List.mem_of_getElem? e2
    have hr1 : rows[n]! = r := by
      obtain ⟨hl, e⟩ := List.getElem?_eq_some_iff.mp e2
      rw [getElem!_pos rows n hl, e]
    refine js_one (js_if (b1 := !decide (r[p]! = 0)) (jt_cmp (pt_cmpR op_ne (je_op (pe_ix ix_list (jv 3 (R := IsL IsI r)) (jv 1 (R := IsU p)) (fun _ _ => rfl)) (rop_ixB (hp r hm))) jI (nomark _)) rop_neI) (fun h => js_one (js_ret (je_eq (jv 2 (R := IsU n)) ?_))) (fun h => js_nil ⟨fun j hj => ?_, _, _, rfl⟩))
    · have h : r[p]! ≠ 0 := by simpa using h
      have hf : rows.findIdx? (fun r => decide (r[p]! ≠ 0)) = some n := by
        rw [List.findIdx?_eq_some_iff_getElem]
        obtain ⟨hl, e⟩ := List.getElem?_eq_some_iff.mp e2
        refine ⟨hl, by rw [e]; simpa using h, fun j hj => ?_⟩
        have := h0 j hj
        rw [getElem!_pos rows j (by omega)] at this
        simp [this]
      show IsU n = IsI (firstAt rows p)
      unfold firstAt
      rw [hf]
    · have h : r[p]! = 0 := by simpa using h
      by_cases q : j = n
      · rw [q, hr1]; exact h
      · exact h0 j (by omega)
  · rintro _ ⟨h0, s, t, rfl⟩
    refine js_one (js_ret (je_eq (je_un (pe_un un_neg jI) run_neg) ?_))
    have hf : rows.findIdx? (fun r => decide (r[p]! ≠ 0)) = none := by
      rw [List.findIdx?_eq_none_iff]
      intro r hr'
      obtain ⟨j, hj, e⟩ := List.getElem_of_mem hr'
      have := h0 j hj
      rw [getElem!_pos rows j hj, e] at this
      simp [this]
    show IsI (-1) = IsI (firstAt rows p)
    unfold firstAt
    rw [hf]
abbrev sp_headed_row (_ : Addr) : Sp := Pr (ι := List Int × Nat) (fun w => [IsL IsI w.1, IsU w.2]) (fun w => Bd 4000 w.1 ∧ w.2 < w.1.length ∧ w.1.length ≤ 1000) (fun w => IsL IsI (headedR w.1 w.2))
abbrev Kn_headed_row (P : Program) (w : World) (K : PySem.W.Frag) (mg : Str → Option Value) (base : Heap) (C : Addr) : Prop := Kn P w K mg base "headed_row" 3 ["row", "place"] (sp_headed_row C)
theorem ok_headed_row (Z : Glo K mg C) (k_bare_row : Kn_bare_row P w K mg base C) {f : Addr} {fd : FuncData} (Fd : FnP K "headed_row" st_headed_row f fd) : FnOk P w K mg base CX0 3 f fd ["row", "place"] (sp_headed_row C) := by
  refine fn_pr Fd sc_headed_row (fun u => by first | rfl | (cases u <;> rfl)) (fun _ => False) (fun _ _ h => h.elim) (fun X u E hX hp hE => ?_)
  obtain ⟨cdv, A, outer, s, H, E', rfl, hr⟩ := hX
  refine PSs.nox ?_
  have nd := (sc_headed_row).nd
  replace hr : Room 2 (cxOf CX0 P w K mg base N_headed_row "headed_row" (defScope st_headed_row) f cdv A outer s H E').nox.A := hr
  obtain ⟨row, p⟩ := u
  obtain ⟨b1, h1, hz⟩ := hp
  have b1 : Bd 4000 row := b1
  have h1 : p < row.length := h1
  have hz : row.length ≤ 1000 := hz
  refine js_seq (js_set (R := IsL IsI (bareR row)) (ps_set (i := 2) nd rfl (.inl rfl) (jc k_bare_row hr row (ja_cons (jv 0) ja_nil) ⟨b1.mono (by decide), hz⟩))) ?_
  refine js_one (js_ret (je_if (b1 := decide ((0 : Int) < (bareR row)[p]!)) (jt_cmp (pt_cmpR op_gt (je_op (pe_ix ix_list (jv 2 (R := IsL IsI (bareR row))) (jv 1 (R := IsU p)) (fun _ _ => rfl)) (rop_ixB (by rw [bareR_len]; exact h1))) jI (nomark _)) rop_gt) (fun h => je_eq (jv 2) ?_) (fun h => je_eq (je_m (jlc (fun n => 0 - n) [("number", 3)] nd (ji_list (Rx := IsI) (xs := bareR row) (pi_list (jv 2))) (fun s H C cl fp x => jg1 3 nd) (fun s H C cl fp x hx => je_op (pe_op op_sub jI (jv 3)) rop_sub) (line_of (m := 1000) (by rw [bareR_len]; exact hz)))) ?_)))
  · have h := of_decide_eq_true h
    show IsL IsI (bareR row) = IsL IsI (headedR row p)
    unfold headedR
    rw [if_pos h]
  · have h := of_decide_eq_false h
    show IsL IsI _ = IsL IsI (headedR row p)
    unfold headedR
    rw [if_neg h]
abbrev sp_head_of (_ : Addr) : Sp := Pr (ι := List Int) (fun w => [IsL IsI w]) (fun w => headOf w < w.length) (fun w => IsU (headOf w))
abbrev Kn_head_of (P : Program) (w : World) (K : PySem.W.Frag) (mg : Str → Option Value) (base : Heap) (C : Addr) : Prop := Kn P w K mg base "head_of" 1 ["row"] (sp_head_of C)
theorem ok_head_of (Z : Glo K mg C)  {f : Addr} {fd : FuncData} (Fd : FnP K "head_of" st_head_of f fd) : FnOk P w K mg base CX0 1 f fd ["row"] (sp_head_of C) := by
  refine fn_pr Fd sc_head_of (fun u => by first | rfl | (cases u <;> rfl)) (fun _ => False) (fun _ _ h => h.elim) (fun X u E hX hp hE => ?_)
  obtain ⟨cdv, A, outer, s, H, E', rfl, hr⟩ := hX
  refine PSs.nox ?_
  have nd := (sc_head_of).nd
  replace hr : Room 0 (cxOf CX0 P w K mg base N_head_of "head_of" (defScope st_head_of) f cdv A outer s H E').nox.A := hr
  rename List Int => row
  have hp : headOf row < row.length := hp
  refine js_seq (js_set (R := IsU 0) (ps_set (i := 1) nd rfl (.inl rfl) jI)) ?_
  refine js_seq (G1 := [.fz (IsL IsI row), .fz (IsU (headOf row))]) (js_while PassesOwn.never (fun m G => m ≤ headOf row ∧ G = [.fz (IsL IsI row), .fz (IsU (headOf row - m))]) (m0 := headOf row) ⟨Nat.le_refl _, by rw [Nat.sub_self]; rfl⟩ ?_) ?_
  · rintro m G1 ⟨hm, rfl⟩
    refine ⟨decide (row[headOf row - m]! = 0), jt_cmp (pt_cmpR op_eq (je_op (pe_ix ix_list (jv 0 (R := IsL IsI row)) (jv 1 (R := IsU (headOf row - m))) (fun _ _ => rfl)) (rop_ixB (by omega))) jI (nomark _)) rop_eqI, fun h => ?_, fun h => ?_⟩
    · have h := of_decide_eq_true h
      have hm0 : m ≠ 0 := fun e => by
        subst e
        rw [Nat.sub_zero, getElem!_pos row _ hp] at h
        have := List.findIdx_getElem (p := fun n : Int => decide (n ≠ 0)) (xs := row) (w := hp)
        exact of_decide_eq_true this h
      refine js_one (js_N (js_set (R := IsU (headOf row - (m - 1))) (ps_set (i := 1) nd rfl (.inl rfl) (je_eq (je_op (pe_op op_add (jv 1 (R := IsU (headOf row - m))) jI) rop_add) ?_))) ?_)
      · show IsI _ = IsI _
        congr 1
        omega
      · rintro G' rfl
        exact ⟨m - 1, by omega, by omega, rfl⟩
    · have h := of_decide_eq_false h
      have : m = 0 := by
        rcases Nat.eq_zero_or_pos m with q | q
        · exact q
        · have hl : headOf row - m < headOf row := by omega
          have := List.not_of_lt_findIdx (p := fun n : Int => decide (n ≠ 0)) (xs := row) hl
          rw [getElem!_pos row _ (by omega)] at h
          simp at this
          exact absurd this h
      subst this
      rfl
  · exact js_one (js_ret (jv 1))
abbrev sp_told_rows (C : Addr) : Sp := Pr (ι := List (List Int)) (fun w => [IsL (IsL IsI) w]) (fun w => w.length ≤ 1000 ∧ ∀ r ∈ w, headOf r < r.length ∧ Bd 4000 r ∧ r.length ≤ 1000) (fun w => IsL (IsL (IsQ C)) (w.map told_rowR))
abbrev Kn_told_rows (P : Program) (w : World) (K : PySem.W.Frag) (mg : Str → Option Value) (base : Heap) (C : Addr) : Prop := Kn P w K mg base "told_rows" 4 ["steps_now"] (sp_told_rows C)
theorem ok_told_rows (Z : Glo K mg C) (mk : Mkr P w K mg base C 2) (k_head_of : Kn_head_of P w K mg base C) {f : Addr} {fd : FuncData} (Fd : FnP K "told_rows" st_told_rows f fd) : FnOk P w K mg base CX0 4 f fd ["steps_now"] (sp_told_rows C) := by
  refine fn_pr Fd sc_told_rows (fun u => by first | rfl | (cases u <;> rfl)) (fun _ => False) (fun _ _ h => h.elim) (fun X u E hX hp hE => ?_)
  obtain ⟨cdv, A, outer, s, H, E', rfl, hr⟩ := hX
  refine PSs.nox ?_
  have nd := (sc_told_rows).nd
  replace hr : Room 3 (cxOf CX0 P w K mg base N_told_rows "told_rows" (defScope st_told_rows) f cdv A outer s H E').nox.A := hr
  rename List (List Int) => rows
  obtain ⟨hz, hp⟩ := hp
  refine js_seq (js_setM (Rm := LsOf (IsL (IsQ C)) []) (ps_set (i := 1) nd rfl (.inl rfl) (jm_ls [] (jm_lst (pe_lst ja_nil))))) ?_
  refine js_cons (N1 := fun G => ∃ s t, G = [.fz (IsL (IsL IsI) rows), .mt (LsOf (IsL (IsQ C)) (rows.map told_rowR)), s, t, .un]) (js_for PassesOwn.never rfl (ji_list (Rx := IsL IsI) (xs := rows) (pi_list (jv 0))) (fun x => jg1 2 nd) (fun i G => ∃ s t, G = [.fz (IsL (IsL IsI) rows), .mt (LsOf (IsL (IsQ C)) ((rows.take i).map told_rowR)), s, t, .un]) ⟨_, _, rfl⟩ ?_ (fun G1 h => by rwa [List.take_length] at h)) ?_
  · rintro i r G1 hi ⟨s, t, rfl⟩
    obtain ⟨h1, h2, h3⟩ := hp r (List.mem_of_getElem? hi)
    refine js_seq (js_set (R := IsI r[headOf r]!) (ps_set (i := 3) nd rfl (.inr rfl) (je_op (pe_ix ix_list (jv 2 (R := IsL IsI r)) (jc k_head_of (hr.mono (by decide)) r (ja_cons (jv 2) ja_nil) h1) (fun _ _ => rfl)) (rop_ixB h1)))) ?_
    refine js_one (js_N (js_append (R := IsL (IsQ C) (told_rowR r)) (Rm' := LsOf (IsL (IsQ C)) ((rows.take (i + 1)).map told_rowR)) (ps_expr (pe_bm PySem.F.plainAttrs_list PySem.F.slot_list_append PySem.F.type_list_append mt_append (pv 1) (pa_cons (je_m (jlc (fun n => Rat.divInt n r[headOf r]!) [("number", 4)] nd (ji_list (Rx := IsI) (xs := r) (pi_list (jv 2))) (fun s H C cl fp x => jg1 4 nd) (fun s H C cl fp x hx => jmk2 mk (hr.mono (by decide)) (ja_cons (jv 4) (ja_cons (jv 3) ja_nil)) ⟨?_, ?_⟩) (line_of h3))) pa_nil))) rfl (fun vs v F a b => ?_) (fun vs F a => ?_)) ?_)
    · rw [getElem!_pos r _ h1]
      have := List.findIdx_getElem (p := fun n : Int => decide (n ≠ 0)) (xs := r) (w := h1)
      exact of_decide_eq_true this
    · exact log2_lt (by decide) (Nat.lt_of_lt_of_le (h2.get h1) (Nat.pow_le_pow_right (by decide) (by decide)))
    · rw [map_take hi]
      exact (a.here.snoc b).up
    · rw [← a.len, List.length_map, List.length_take]
      exact line_of (m := 1000) (by omega)
    · rintro G' rfl
      exact ⟨_, _, rfl⟩
  · rintro _ ⟨s, t, rfl⟩
    exact js_one (js_retV (pv 1) rfl)
end
end Gw
set_option maxHeartbeats 4000000
namespace Gw
open PySem PySem.Spec PyProof.Rows L2
section
variable {P : Program} {w : World} {K : PySem.W.Frag} {mg : Str → Option Value} {base : Heap} {C : Addr}
def StepP (rows : List (List Int)) : Prop := ∃ m b, Rect m b rows ∧ bits b rows.length ≤ 4000 ∧ m ≤ 1000 ∧ rows.length ≤ 100
abbrev IsM : List (List Int) → V → Hp → Prop := IsL (IsL IsI)
abbrev sp_int_steps (_ : Addr) : Sp := Pr (ι := List (List Int)) (fun w => [IsM w]) StepP (fun w => IsM (int_stepsR w))
theorem firstAt_ge {rows : List (List Int)} {p : Nat} (h : decide (0 ≤ firstAt rows p) = true) : ∃ i, rows.findIdx? (fun r => decide (r[p]! ≠ 0)) = some i ∧ firstAt rows p = (i : Int) := by
  unfold firstAt at h ⊢
  cases e : rows.findIdx? (fun r => decide (r[p]! ≠ 0)) with
  | none => rw [e] at h; exact absurd h (by decide)
  | some i => exact ⟨i, rfl, rfl⟩
theorem firstAt_lt {rows : List (List Int)} {p : Nat} (h : decide (0 ≤ firstAt rows p) = false) : rows.findIdx? (fun r => decide (r[p]! ≠ 0)) = none := by
  unfold firstAt at h
  cases e : rows.findIdx? (fun r => decide (r[p]! ≠ 0)) with
  | none => rfl
  | some i =>
    rw [e] at h
    have : ¬ (0 : Int) ≤ (i : Int) := of_decide_eq_false h
    omega
abbrev Kn_int_steps (P : Program) (w : World) (K : PySem.W.Frag) (mg : Str → Option Value) (base : Heap) (C : Addr) : Prop := Kn P w K mg base "int_steps" 4 ["rows"] (sp_int_steps C)
theorem ok_int_steps (Z : Glo K mg C) (k_first_at : Kn_first_at P w K mg base C) (k_headed_row : Kn_headed_row P w K mg base C) (k_cleared : Kn_cleared P w K mg base C) {f : Addr} {fd : FuncData} (Fd : FnP K "int_steps" st_int_steps f fd) : FnOk P w K mg base CX0 4 f fd ["rows"] (sp_int_steps C) := by
  refine fn_pr Fd sc_int_steps (fun u => by first | rfl | (cases u <;> rfl)) (fun _ => False) (fun _ _ h => h.elim) (fun X u E hX hp hE => ?_)
  obtain ⟨cdv, A, outer, s, H, E', rfl, hr⟩ := hX
  refine PSs.nox ?_
  have nd := (sc_int_steps).nd
  replace hr : Room 3 (cxOf CX0 P w K mg base N_int_steps "int_steps" (defScope st_int_steps) f cdv A outer s H E').nox.A := hr
  rename List (List Int) => rows
  obtain ⟨m, b, hR, hb, hm, hz⟩ := hp
  refine js_seq (js_par (i := 1) (j := 2) (Ra := IsM rows) (Rb := IsM []) (ps_par (i := 1) (j := 2) rfl nd rfl rfl (by decide) rfl rfl (pa_cons (jv 0) (pa_cons (je_m (jm_ls [] (jm_lst (pe_lst ja_nil)))) pa_nil)) rfl)) ?_
  have hw : wid rows ≤ m := by
    rcases Nat.eq_zero_or_pos rows.length with h0 | h0
    · unfold wid; rw [if_neg (by omega)]; omega
    · rw [wid_eq hR h0]; exact Nat.le_refl m
  refine js_cons (N1 := fun G => ∃ s3 s4 s5 s6, G = [.fz (IsM rows), .fz (IsM (stepsTo rows (wid rows)).left), .fz (IsM (stepsTo rows (wid rows)).found), s3, s4, s5, s6, .un]) (js_for PassesOwn.never rfl (ji_rangeN (n := wid rows) (by omega) (pi_range1 rfl Z.range (ja_cons (je_if (b1 := decide ((0 : Int) < (rows.length : Int))) (jt_cmp (pt_cmpR op_gt (jbB call_len Z.len boot_len (ja_cons (jv 0 (R := IsM rows)) ja_nil) rc_len) jI (nomark _)) rop_gt) (fun h => je_eq (jbB call_len Z.len boot_len (ja_cons (je_op (pe_ix ix_list (jv 0 (R := IsM rows)) jI (fun _ _ => rfl)) (rop_ixB (j := 0) ?_)) ja_nil) rc_len) ?_) (fun h => je_eq jI ?_)) ja_nil))) (fun x => jg1 3 nd)
    (fun i G => ∃ s3 s4 s5 s6, G = [.fz (IsM rows), .fz (IsM (stepsTo rows i).left), .fz (IsM (stepsTo rows i).found), s3, s4, s5, s6, .un]) ⟨_, _, _, _, rfl⟩ ?_ (fun G1 h => by rwa [List.length_range] at h)) ?_
  · have h := of_decide_eq_true h
    omega
  · have h := of_decide_eq_true h
    show IsI _ = IsU (wid rows)
    unfold wid
    rw [if_pos (by omega)]
  · have h := of_decide_eq_false h
    show IsI 0 = IsU (wid rows)
    unfold wid
    rw [if_neg (by omega)]
    rfl
  · rintro i p G1 hi ⟨s3, s4, s5, s6, rfl⟩
    have hpi : p = i ∧ i < wid rows := by
      obtain ⟨hl, e⟩ := List.getElem?_eq_some_iff.mp hi
      rw [List.getElem_range] at e
      exact ⟨e.symm, by simpa using hl⟩
    obtain ⟨rfl, hpw⟩ := hpi
    have ok := stepsTo_ok hR p (by omega)
    have eS := stepsTo_succ rows p
    generalize stepsTo rows p = S at *
    generalize stepsTo rows (p + 1) = S' at *
    have hk : S.found.length ≤ rows.length := by have := ok.n; omega
    have hbb : bits b S.found.length ≤ 4000 := Nat.le_trans (bits_mono hk) hb
    have hl : S.left.length ≤ 100 := by have := ok.n; omega
    have hf : S.found.length ≤ 100 := by omega
    refine js_seq (js_set (R := IsI (firstAt S.left p)) (ps_set (i := 4) nd rfl (.inl rfl) (jc k_first_at (hr.mono (by decide)) (S.left, p) (ja_cons (jv 1) (ja_cons (jv 3) ja_nil)) (fun r h => by have := ok.l.len r h; show p < r.length; omega)))) ?_
    refine js_one (js_if (b1 := decide (0 ≤ firstAt S.left p)) (jt_cmp (pt_cmpR op_ge (jv 4 (R := IsI (firstAt S.left p))) jI (nomark _)) rop_ge) (fun h => ?_) (fun h => js_nil ?_))
    · obtain ⟨at_, e1, e2⟩ := firstAt_ge h
      obtain ⟨hal, hax, _⟩ := findIdx_some e1
      rw [e2]
      have hmem : S.left[at_]! ∈ S.left := by rw [getElem!_pos S.left at_ hal]; exact List.getElem_mem hal
      have hb0 : Bd 4000 S.left[at_]! := (ok.l.bd _ hmem).mono hbb
      have hl0 := ok.l.len _ hmem
      have hhb := headedR_bd hb0 p
      have hhl : (headedR S.left[at_]! p).length = m := by rw [headedR_len]; exact hl0
      have cl : ∀ r : List Int, Bd 4000 r → r.length = m → Bd 4000 r ∧ Bd 4000 (headedR S.left[at_]! p) ∧ p < r.length ∧ r.length = (headedR S.left[at_]! p).length ∧ r.length ≤ 1000 := fun r h1 h2 => ⟨h1, hhb, by omega, by omega, by omega⟩
      have sub : ∀ r ∈ S.left.take at_ ++ S.left.drop (at_ + 1), r ∈ S.left := fun r hr' => by
        rcases List.mem_append.mp hr' with q | q
        · exact List.mem_of_mem_take q
        · exact List.mem_of_mem_drop q
      refine js_seq (js_set (R := IsL IsI (headedR S.left[at_]! p)) (ps_set (i := 5) nd rfl (.inr rfl) (jc k_headed_row (hr.mono (by decide)) (S.left[at_]!, p) (ja_cons (je_op (pe_ix ix_list (jv 1 (R := IsM S.left)) (jv 4 (R := IsU at_)) (fun _ _ => rfl)) (rop_ixB hal)) (ja_cons (jv 3) ja_nil)) ⟨hb0, by show p < (S.left[at_]!).length; omega, by show (S.left[at_]!).length ≤ 1000; omega⟩))) ?_
      refine js_seq (js_set (R := IsM (S.left.take at_ ++ S.left.drop (at_ + 1))) (ps_set (i := 6) nd rfl (.inl rfl) (je_m (jm_op (pe_op op_cat (je_m (jm_slice (pe_slice sl_list (jv 1 (R := IsM S.left)) jo_none (jo_some (jv 4 (R := IsU at_)))) (cut_to _ at_ S.left rfl).symm)) (je_m (jm_slice (pe_slice sl_list (jv 1 (R := IsM S.left)) (jo_some (je_eq (R' := IsU (at_ + 1)) (je_op (pe_op op_add (jv 4 (R := IsU at_)) jI) rop_add) rfl)) jo_none) (cut_from _ (at_ + 1) S.left rfl).symm))) (rop_cat ?_))))) ?_
      · rw [List.length_take, List.length_drop]
        omega
      refine js_seq (js_set (R := IsM ((S.found.map fun r => clearedR r (headedR S.left[at_]! p) p) ++ [headedR S.left[at_]! p])) (ps_set (i := 2) nd rfl (.inl rfl) (je_m (jm_op (pe_op op_cat (je_m (jlc (fun r => clearedR r (headedR S.left[at_]! p) p) [("row", 7)] nd (ji_list (Rx := IsL IsI) (xs := S.found) (pi_list (jv 2))) (fun s H C cl fp x => jg1 7 nd) (fun s H C cl' fp x hx => jc k_cleared hr (x, headedR S.left[at_]! p, p) (ja_cons (jv 7) (ja_cons (jv 5) (ja_cons (jv 3) ja_nil))) (cl x ((ok.f.bd x hx).mono hbb) (ok.f.len x hx))) (line_of (m := 1000) (by omega)))) (je_m (jm_ls [headedR S.left[at_]! p] (jm_lst (pe_lst (ja_cons (jv 5) ja_nil)))))) (rop_cat ?_))))) ?_
      · rw [List.length_map]
        show _ + 1 ≤ _
        omega
      refine js_seq (jslc (i := 1) (fun r => clearedR r (headedR S.left[at_]! p) p) [("row", 7)] nd (ji_list (Rx := IsL IsI) (xs := S.left.take at_ ++ S.left.drop (at_ + 1)) (pi_list (jv 6))) (fun s H C cl fp x => jg1 7 nd) (fun s H C cl' fp x hx => jc k_cleared hr (x, headedR S.left[at_]! p, p) (ja_cons (jv 7) (ja_cons (jv 5) (ja_cons (jv 3) ja_nil))) (cl x ((ok.l.bd x (sub x hx)).mono hbb) (ok.l.len x (sub x hx)))) (line_of (m := 1000) ?_)) ?_
      · rw [List.length_append, List.length_take, List.length_drop]
        omega
      refine js_frz (i := 1) rfl (js_nil ?_)
      rw [eS]
      unfold stepI
      rw [e1]
      exact ⟨_, _, _, _, rfl⟩
    · have e1 := firstAt_lt h
      rw [eS]
      unfold stepI
      rw [e1]
      exact ⟨_, _, _, _, rfl⟩
  · rintro _ ⟨s3, s4, s5, s6, rfl⟩
    exact js_one (js_ret (jv 2))
end
end Gw
set_option maxHeartbeats 4000000
namespace Gw
open PySem PySem.Spec PyProof.Rows L2
section
variable {P : Program} {w : World} {K : PySem.W.Frag} {mg : Str → Option Value} {base : Heap} {C : Addr}
/-- what steps_of asks -/
def SolP (rows : List (List Rat)) : Prop := (∀ x ∈ rows, WhP x ∧ x.length ≤ 1000) ∧ rows.length ≤ 100 ∧ StepP (rows.map wholesL) ∧ (int_stepsR (rows.map wholesL)).length ≤ 1000 ∧ ∀ r ∈ int_stepsR (rows.map wholesL), headOf r < r.length ∧ Bd 4000 r ∧ r.length ≤ 1000
abbrev IsQM (C : Addr) : List (List Rat) → V → Hp → Prop := IsL (IsL (IsQ C))
abbrev sp_steps_of (C : Addr) : Sp := Pr (ι := List (List Rat)) (fun w => [IsQM C w]) SolP (fun w => IsQM C (steps_ofR w))
abbrev Kn_steps_of (P : Program) (w : World) (K : PySem.W.Frag) (mg : Str → Option Value) (base : Heap) (C : Addr) : Prop := Kn P w K mg base "steps_of" 5 ["rows"] (sp_steps_of C)
theorem ok_steps_of (Z : Glo K mg C) (k_told_rows : Kn_told_rows P w K mg base C) (k_int_steps : Kn_int_steps P w K mg base C) (k_ints_of : Kn_ints_of P w K mg base C) {f : Addr} {fd : FuncData} (Fd : FnP K "steps_of" st_steps_of f fd) : FnOk P w K mg base CX0 5 f fd ["rows"] (sp_steps_of C) := by
  refine fn_pr Fd sc_steps_of (fun u => by first | rfl | (cases u <;> rfl)) (fun _ => False) (fun _ _ h => h.elim) (fun X u E hX hp hE => ?_)
  obtain ⟨cdv, A, outer, s, H, E', rfl, hr⟩ := hX
  refine PSs.nox ?_
  have nd := (sc_steps_of).nd
  replace hr : Room 4 (cxOf CX0 P w K mg base N_steps_of "steps_of" (defScope st_steps_of) f cdv A outer s H E').nox.A := hr
  rename List (List Rat) => rows
  obtain ⟨h1, h2, h3, h4, h5⟩ := hp
  exact js_one (js_ret (jc k_told_rows (hr.mono (by decide)) _ (ja_cons (jc k_int_steps (hr.mono (by decide)) _ (ja_cons (jc k_ints_of (hr.mono (by decide)) rows (ja_cons (jv 0) ja_nil) ⟨h1, Nat.le_trans h2 (by decide)⟩) ja_nil) h3) ja_nil) ⟨h4, h5⟩))
/-! ### rules -/
abbrev IsSN (C : Addr) : List Rat → V → Hp → Prop := IsSq (IsNm C)
abbrev IsSNM (C : Addr) : List (List Rat) → V → Hp → Prop := IsSq (IsSq (IsNm C))
theorem all_true {α : Type} (xs : List α) : (xs.map fun _ => true).all id = true := by simp
abbrev sp_are_numbers (C : Addr) : Sp := Pr (ι := List Rat × Nat) (fun w => [IsSN C w.1, IsU w.2]) (fun w => w.1.length ≤ 1000) (fun w => IsB (decide (w.1.length = w.2)))
abbrev Kn_are_numbers (P : Program) (w : World) (K : PySem.W.Frag) (mg : Str → Option Value) (base : Heap) (C : Addr) : Prop := Kn P w K mg base "are_numbers" 3 ["value", "many"] (sp_are_numbers C)
theorem ok_are_numbers (Z : Glo K mg C) (k_is_list : Kn_is_list P w K mg base C) (k_is_number : Kn_is_number P w K mg base C) {f : Addr} {fd : FuncData} (Fd : FnP K "are_numbers" st_are_numbers f fd) : FnOk P w K mg base CX0 3 f fd ["value", "many"] (sp_are_numbers C) := by
  refine fn_pr Fd sc_are_numbers (fun u => by first | rfl | (cases u <;> rfl)) (fun _ => False) (fun _ _ h => h.elim) (fun X u E hX hp hE => ?_)
  obtain ⟨cdv, A, outer, s, H, E', rfl, hr⟩ := hX
  refine PSs.nox ?_
  have nd := (sc_are_numbers).nd
  replace hr : Room 2 (cxOf CX0 P w K mg base N_are_numbers "are_numbers" (defScope st_are_numbers) f cdv A outer s H E').nox.A := hr
  obtain ⟨xs, n⟩ := u
  have hp : xs.length ≤ 1000 := hp
  refine js_one (js_ret (je_eq (je_and (b1 := true) (jc k_is_list (hr.mono (by decide)) () (ja_cons (je_conv (jv 0 (R := IsSN C xs)) sq_lt) ja_nil) trivial) fun _ => je_and (b1 := decide ((xs.length : Int) = (n : Int))) (je_op (pe_cmpR op_eq (jbB call_len Z.len boot_len (ja_cons (jv 0 (R := IsSN C xs)) ja_nil) rc_lenS) (jv 1 (R := IsU n)) (nomark _)) rop_eqI)
    fun _ => pe_one (jbB (cr_all rfl) Z.all boot_all (ja_cons (je_m (jlc (Ry := IsB) (fun _ => true) [("number", 2)] nd (ji_seq (i := 0) (Rx := IsNm C) (xs := xs) (pi_list (pv 0)) (pi_tup (pv 0)) rfl) (fun s H C' cl fp x => jg1 2 nd) (fun s H C' cl fp x hx => jc k_is_number hr x (ja_cons (jv 2) ja_nil) trivial) (line_of hp))) ja_nil) rc_all)) ?_))
  show IsB _ = IsB (decide (xs.length = n))
  rw [all_true]
  congr 1
  rw [Bool.and_true, Bool.true_and, decide_eq_decide]
  omega
abbrev sp_is_table_of (C : Addr) : Sp := Pr (ι := List (List Rat) × Nat) (fun w => [IsSNM C w.1, IsU w.2]) (fun w => w.1.length ≤ 1000 ∧ ∀ r ∈ w.1, r.length ≤ 1000) (fun w => IsB (decide (w.1.length = w.2) && w.1.all fun r => decide (r.length = w.2)))
abbrev Kn_is_table_of (P : Program) (w : World) (K : PySem.W.Frag) (mg : Str → Option Value) (base : Heap) (C : Addr) : Prop := Kn P w K mg base "is_table_of" 4 ["value", "many"] (sp_is_table_of C)
theorem ok_is_table_of (Z : Glo K mg C) (k_is_list : Kn_is_list P w K mg base C) (k_are_numbers : Kn_are_numbers P w K mg base C) {f : Addr} {fd : FuncData} (Fd : FnP K "is_table_of" st_is_table_of f fd) : FnOk P w K mg base CX0 4 f fd ["value", "many"] (sp_is_table_of C) := by
  refine fn_pr Fd sc_is_table_of (fun u => by first | rfl | (cases u <;> rfl)) (fun _ => False) (fun _ _ h => h.elim) (fun X u E hX hp hE => ?_)
  obtain ⟨cdv, A, outer, s, H, E', rfl, hr⟩ := hX
  refine PSs.nox ?_
  have nd := (sc_is_table_of).nd
  replace hr : Room 3 (cxOf CX0 P w K mg base N_is_table_of "is_table_of" (defScope st_is_table_of) f cdv A outer s H E').nox.A := hr
  obtain ⟨xs, n⟩ := u
  have h1 : xs.length ≤ 1000 := hp.1
  refine js_one (js_ret (je_eq (je_and (b1 := true) (jc k_is_list (hr.mono (by decide)) () (ja_cons (je_conv (jv 0 (R := IsSNM C xs)) sq_lt) ja_nil) trivial) fun _ => je_and (b1 := decide ((xs.length : Int) = (n : Int))) (je_op (pe_cmpR op_eq (jbB call_len Z.len boot_len (ja_cons (jv 0 (R := IsSNM C xs)) ja_nil) rc_lenS) (jv 1 (R := IsU n)) (nomark _)) rop_eqI)
    fun _ => pe_one (jbB (cr_all rfl) Z.all boot_all (ja_cons (je_m (jlc (Ry := IsB) (fun r : List Rat => decide (r.length = n)) [("row", 2)] nd (ji_seq (i := 0) (Rx := IsSN C) (xs := xs) (pi_list (pv 0)) (pi_tup (pv 0)) rfl) (fun s H C' cl fp x => jg1 2 nd) (fun s H C' cl fp x hx => jc k_are_numbers hr (x, n) (ja_cons (jv 2) (ja_cons (jv 1) ja_nil)) (hp.2 x hx)) (line_of h1))) ja_nil) rc_all)) ?_))
  show IsB _ = IsB (decide (xs.length = n) && xs.all fun r => decide (r.length = n))
  rw [Bool.true_and, List.all_map]
  congr 2
  rw [decide_eq_decide]
  omega
abbrev sp_told_table (C : Addr) : Sp := Pr (ι := List (List Rat)) (fun w => [IsSNM C w]) (fun w => w.length ≤ 1000 ∧ ∀ r ∈ w, r.length ≤ 1000) (fun w => IsQM C w)
abbrev Kn_told_table (P : Program) (w : World) (K : PySem.W.Frag) (mg : Str → Option Value) (base : Heap) (C : Addr) : Prop := Kn P w K mg base "told_table_rules" 6 ["value"] (sp_told_table C)
theorem ok_told_table (Z : Glo K mg C) (k_ratio_of : Kn_ratio_of P w K mg base C) {f : Addr} {fd : FuncData} (Fd : FnP K "told_table" st_told_table f fd) : FnOk P w K mg base CX0 6 f fd ["value"] (sp_told_table C) := by
  refine fn_pr Fd sc_told_table (fun u => by first | rfl | (cases u <;> rfl)) (fun _ => False) (fun _ _ h => h.elim) (fun X u E hX hp hE => ?_)
  obtain ⟨cdv, A, outer, s, H, E', rfl, hr⟩ := hX
  refine PSs.nox ?_
  have nd := (sc_told_table).nd
  replace hr : Room 5 (cxOf CX0 P w K mg base N_told_table "told_table" (defScope st_told_table) f cdv A outer s H E').nox.A := hr
  rename List (List Rat) => xs
  refine js_one (js_ret (je_eq (je_m (jlc (Ry := IsL (IsQ C)) (fun r => r) [("row", 2)] nd (ji_seq (i := 0) (Rx := IsSN C) (xs := xs) (pi_list (pv 0)) (pi_tup (pv 0)) rfl) (fun s H C' cl fp x => jg1 2 nd) (fun s H C' cl fp r hr' => ?_) (line_of hp.1))) (by rw [List.map_id']))
  )
  exact je_eq (je_m (jlc (Ry := IsQ C) (fun r => r) [("number", 1)] nd (ji_seq (i := 2) (Rx := IsNm C) (xs := r) (pi_list (pv 2)) (pi_tup (pv 2)) rfl) (fun s H C' cl fp x => jg1 1 nd) (fun s H C' cl fp x hx => jc k_ratio_of hr x (ja_cons (jv 1) ja_nil) trivial) (line_of (hp.2 r hr')))) (by rw [List.map_id'])
def ChP (xs : List Rat) : Prop := FitsL 0 xs ∧ xs.length ≤ 1000
abbrev sp_are_chances (C : Addr) : Sp := Pr (ι := List Rat) (fun w => [IsL (IsQ C) w]) ChP (fun w => IsB ((w.all fun x => decide (0 ≤ x)) && decide (sumR w = 1)))
abbrev Kn_are_chances (P : Program) (w : World) (K : PySem.W.Frag) (mg : Str → Option Value) (base : Heap) (C : Addr) : Prop := Kn P w K mg base "are_chances" 8 ["row"] (sp_are_chances C)
theorem ok_are_chances (Z : Glo K mg C) (psign : PropK P w K mg base C "sign" 1 (sp_Rsign C)) (k_total_of : Kn_total_of P w K mg base C) (mk : Mkr P w K mg base C 2) (oeq : EqK P w K mg base C 1) {f : Addr} {fd : FuncData} (Fd : FnP K "are_chances" st_are_chances f fd) : FnOk P w K mg base CX0 8 f fd ["row"] (sp_are_chances C) := by
  refine fn_pr Fd sc_are_chances (fun u => by first | rfl | (cases u <;> rfl)) (fun _ => False) (fun _ _ h => h.elim) (fun X u E hX hp hE => ?_)
  obtain ⟨cdv, A, outer, s, H, E', rfl, hr⟩ := hX
  refine PSs.nox ?_
  have nd := (sc_are_chances).nd
  replace hr : Room 7 (cxOf CX0 P w K mg base N_are_chances "are_chances" (defScope st_are_chances) f cdv A outer s H E').nox.A := hr
  rename List Rat => xs
  refine js_one (js_ret (je_eq (je_and (jbB (cr_all rfl) Z.all boot_all (ja_cons (je_m (jlc (Ry := IsB) (fun x : Rat => decide (0 ≤ x)) [("number", 1)] nd (ji_list (Rx := IsQ C) (xs := xs) (pi_list (jv 0))) (fun s H C' cl fp x => jg1 1 nd) (fun s H C' cl fp x hx => je_eq (je_op (pe_cmpR op_ge (jprop psign (hr.mono (by decide)) x (jv 1 (R := IsQ C x)) rfl trivial rfl) jI (nomark _)) rop_ge) (by rw [q_sgn_nn])) (line_of hp.2))) ja_nil) rc_all) fun _ => pe_one (jeqQ oeq (hr.mono (by decide)) (jc k_total_of hr xs (ja_cons (jv 0) ja_nil) hp.1) (jmk1 mk (hr.mono (by decide)) (ja_cons jI ja_nil)))) ?_))
  show IsB _ = IsB _
  rw [List.all_map]
  rfl
end
end Gw
set_option maxHeartbeats 4000000
namespace Gw
open PySem PySem.Spec PyProof.Rows L2
section
variable {P : Program} {w : World} {K : PySem.W.Frag} {mg : Str → Option Value} {base : Heap} {C : Addr}
/-- a proposal -/
structure PropP (rows : List (List Rat)) : Prop where
  lo : 2 ≤ rows.length
  hi : rows.length ≤ 6
  sq : ∀ r ∈ rows, r.length = rows.length
  nn : ∀ r ∈ rows, ∀ x ∈ r, 0 ≤ x
  one : ∀ r ∈ rows, sumR r = 1
  fit : ∀ r ∈ rows, FitsL 0 r
abbrev sp_want_proposal (C : Addr) : Sp := Pr (ι := List (List Rat)) (fun w => [IsSNM C w]) PropP (fun w => IsQM C w)
abbrev Kn_want_proposal (P : Program) (w : World) (K : PySem.W.Frag) (mg : Str → Option Value) (base : Heap) (C : Addr) : Prop := Kn P w K mg base "want_proposal" 9 ["value"] (sp_want_proposal C)
theorem ok_want_proposal (Z : Glo K mg C) (k_is_list : Kn_is_list P w K mg base C) (k_is_table_of : Kn_is_table_of P w K mg base C) (k_told_table : Kn_told_table P w K mg base C) (k_are_chances : Kn_are_chances P w K mg base C) {f : Addr} {fd : FuncData} (Fd : FnP K "want_proposal" st_want_proposal f fd) : FnOk P w K mg base CX0 9 f fd ["value"] (sp_want_proposal C) := by
  refine fn_pr Fd sc_want_proposal (fun u => by first | rfl | (cases u <;> rfl)) (fun _ => False) (fun _ _ h => h.elim) (fun X u E hX hp hE => ?_)
  obtain ⟨cdv, A, outer, s, H, E', rfl, hr⟩ := hX
  refine PSs.nox ?_
  have nd := (sc_want_proposal).nd
  replace hr : Room 8 (cxOf CX0 P w K mg base N_want_proposal "want_proposal" (defScope st_want_proposal) f cdv A outer s H E').nox.A := hr
  rename List (List Rat) => xs
  have hl : xs.length ≤ 1000 := by have := hp.hi; omega
  have hl2 : ∀ r ∈ xs, r.length ≤ 1000 := fun r h => by have := hp.hi; rw [hp.sq r h]; omega
  obtain ⟨t1, g1⟩ := Z.least
  obtain ⟨t2, g2⟩ := Z.most
  refine js_seq (G1 := G0 [IsSNM C xs] 3) (js_if (b1 := false) (jt_eq (PW.pt (jw_or (b1 := false) (jt_not (b1 := true) (jt_val (pt_val (jc k_is_list (hr.mono (by decide)) () (ja_cons (je_conv (jv 0 (R := IsSNM C xs)) sq_lt) ja_nil) trivial)))) fun _ => jw_or (b1 := false) (b2 := false) (jt_eq (jt_not (jt_chain (pt_chain op_le op_le (jgI g1) (jbB call_len Z.len boot_len (ja_cons (jv 0 (R := IsSNM C xs)) ja_nil) rc_lenS) (jgI g2)) rop_le rop_le)) ?_) fun _ => jw_or1 (jt_not (b1 := true) (jt_val (pt_val (jc k_is_table_of (hr.mono (by decide)) (xs, xs.length) (ja_cons (jv 0) (ja_cons (jbB call_len Z.len boot_len (ja_cons (jv 0 (R := IsSNM C xs)) ja_nil) rc_lenS) ja_nil)) ⟨hl, hl2⟩ ?_)))))) rfl) (fun h => nomatch h) (fun _ => js_nil rfl)) ?_
  · have h1 := hp.lo
    have h2 := hp.hi
    simp only [Bool.not_eq_false', Bool.and_eq_true, decide_eq_true_eq]
    omega
  · show IsB _ = IsB true
    congr 1
    simp only [Bool.and_eq_true, decide_eq_true_eq, List.all_eq_true, true_and]
    exact hp.sq
  refine js_seq (js_set (R := IsQM C xs) (ps_set (i := 1) nd rfl (.inl rfl) (jc k_told_table (hr.mono (by decide)) xs (ja_cons (jv 0) ja_nil) ⟨hl, hl2⟩))) ?_
  refine js_seq (G1 := [.fz (IsSNM C xs), .fz (IsQM C xs), .un]) (js_if (b1 := false) (jt_not (b1 := true) (jt_val (pt_val (je_eq (jbB (cr_all rfl) Z.all boot_all (ja_cons (je_m (jlc (Ry := IsB) (fun r : List Rat => (r.all fun x => decide (0 ≤ x)) && decide (sumR r = 1)) [("row", 2)] nd (ji_list (Rx := IsL (IsQ C)) (xs := xs) (pi_list (jv 1))) (fun s H C' cl fp x => jg1 2 nd) (fun s H C' cl fp x hx => jc k_are_chances hr x (ja_cons (jv 2) ja_nil) ⟨hp.fit x hx, hl2 x hx⟩) (line_of hl))) ja_nil) rc_all) ?_)))) (fun h => nomatch h) (fun _ => js_nil rfl)) ?_
  · show IsB _ = IsB true
    congr 1
    rw [List.all_map, List.all_eq_true]
    intro r h
    show ((r.all fun x => decide (0 ≤ x)) && decide (sumR r = 1)) = true
    rw [hp.one r h]
    simp only [Bool.and_eq_true, List.all_eq_true, decide_eq_true_eq, and_true]
    exact hp.nn r h
  exact js_one (js_ret (jv 1))
def WeiP (n : Nat) (ws : List Rat) : Prop := ws.length = n ∧ n ≤ 1000 ∧ ∀ x ∈ ws, 0 < x
abbrev sp_want_weights (C : Addr) : Sp := Pr (ι := List Rat × Nat) (fun w => [IsU w.2, IsSN C w.1]) (fun w => WeiP w.2 w.1) (fun w => IsL (IsQ C) w.1)
abbrev Kn_want_weights (P : Program) (w : World) (K : PySem.W.Frag) (mg : Str → Option Value) (base : Heap) (C : Addr) : Prop := Kn P w K mg base "want_weights" 6 ["places", "value"] (sp_want_weights C)
theorem ok_want_weights (Z : Glo K mg C) (k_are_numbers : Kn_are_numbers P w K mg base C) (k_ratio_of : Kn_ratio_of P w K mg base C) (psign : PropK P w K mg base C "sign" 1 (sp_Rsign C)) {f : Addr} {fd : FuncData} (Fd : FnP K "want_weights" st_want_weights f fd) : FnOk P w K mg base CX0 6 f fd ["places", "value"] (sp_want_weights C) := by
  refine fn_pr Fd sc_want_weights (fun u => by first | rfl | (cases u <;> rfl)) (fun _ => False) (fun _ _ h => h.elim) (fun X u E hX hp hE => ?_)
  obtain ⟨cdv, A, outer, s, H, E', rfl, hr⟩ := hX
  refine PSs.nox ?_
  have nd := (sc_want_weights).nd
  replace hr : Room 5 (cxOf CX0 P w K mg base N_want_weights "want_weights" (defScope st_want_weights) f cdv A outer s H E').nox.A := hr
  obtain ⟨xs, n⟩ := u
  obtain ⟨h1, h2, h3⟩ := hp
  have h1 : xs.length = n := h1
  have h2 : n ≤ 1000 := h2
  have h3 : ∀ x ∈ xs, 0 < x := h3
  refine js_seq (G1 := G0 [IsU n, IsSN C xs] 4) (js_if (b1 := false) (jt_not (b1 := true) (jt_val (pt_val (jc k_are_numbers (hr.mono (by decide)) (xs, n) (ja_cons (jv 1) (ja_cons (jv 0) ja_nil)) (by show xs.length ≤ 1000; omega) (by show IsB (decide (xs.length = n)) = IsB true; rw [decide_eq_true h1]))))) (fun h => nomatch h) (fun _ => js_nil rfl)) ?_
  refine js_seq (jslc (i := 2) (Ry := IsQ C) (fun x => x) [("number", 3)] nd (ji_seq (i := 1) (Rx := IsNm C) (xs := xs) (pi_list (pv 1)) (pi_tup (pv 1)) rfl) (fun s H C' cl fp x => jg1 3 nd) (fun s H C' cl fp x hx => jc k_ratio_of hr x (ja_cons (jv 3) ja_nil) trivial) (line_of (m := 1000) (by omega))) ?_
  rw [List.map_id']
  refine js_frz (i := 2) rfl ?_
  refine js_seq (G1 := [.fz (IsU n), .fz (IsSN C xs), .fz (IsL (IsQ C) xs), .un]) (js_if (b1 := false) (jt_not (b1 := true) (jt_val (pt_val (je_eq (jbB (cr_all rfl) Z.all boot_all (ja_cons (je_m (jlc (Ry := IsB) (fun x : Rat => decide (0 < x)) [("number", 3)] nd (ji_list (Rx := IsQ C) (xs := xs) (pi_list (jv 2))) (fun s H C' cl fp x => jg1 3 nd) (fun s H C' cl fp x hx => je_eq (je_op (pe_cmpR op_gt (jprop psign (hr.mono (by decide)) x (jv 3 (R := IsQ C x)) rfl trivial rfl) jI (nomark _)) rop_gt) (by rw [q_sgn_pos])) (line_of (m := 1000) (by omega)))) ja_nil) rc_all) ?_)))) (fun h => nomatch h) (fun _ => js_nil rfl)) ?_
  · show IsB _ = IsB true
    congr 1
    rw [List.all_map, List.all_eq_true]
    intro r h
    exact decide_eq_true (h3 r h)
  exact js_one (js_ret (jv 2))
/-! ### spreads -/
abbrev IsPn (C : Addr) (p : Rat × Rat) : V → Hp → Prop := IsTp [IsNm C p.1, IsNm C p.2]
abbrev IsPq (C : Addr) (p : Rat × Rat) : V → Hp → Prop := IsTp [IsQ C p.1, IsQ C p.2]
theorem pn_ts {C : Addr} {p : Rat × Rat} : ∀ v F, IsPn C p v F → IsTs (IsNm C) [p.1, p.2] v F := fun v F ⟨a, vs, e, h, u⟩ => ⟨a, vs, e, h, u.imp fun F q => args_ls q⟩
abbrev sp_is_part (C : Addr) : Sp := Pr (ι := Rat × Rat) (fun w => [IsPn C w]) (fun w => 0 < w.1 ∧ 0 ≤ w.2) (fun w => IsB true)
abbrev Kn_is_part (P : Program) (w : World) (K : PySem.W.Frag) (mg : Str → Option Value) (base : Heap) (C : Addr) : Prop := Kn P w K mg base "is_part" 6 ["value"] (sp_is_part C)
theorem ok_is_part (Z : Glo K mg C) (k_is_number : Kn_is_number P w K mg base C) (k_ratio_of : Kn_ratio_of P w K mg base C) (psign : PropK P w K mg base C "sign" 1 (sp_Rsign C)) {f : Addr} {fd : FuncData} (Fd : FnP K "is_part" st_is_part f fd) : FnOk P w K mg base CX0 6 f fd ["value"] (sp_is_part C) := by
  refine fn_pr Fd sc_is_part (fun u => by first | rfl | (cases u <;> rfl)) (fun _ => False) (fun _ _ h => h.elim) (fun X u E hX hp hE => ?_)
  obtain ⟨cdv, A, outer, s, H, E', rfl, hr⟩ := hX
  refine PSs.nox ?_
  have nd := (sc_is_part).nd
  replace hr : Room 5 (cxOf CX0 P w K mg base N_is_part "is_part" (defScope st_is_part) f cdv A outer s H E').nox.A := hr
  rename Rat × Rat => p
  refine js_seq (G1 := G0 [IsPn C p] 2) (js_if (b1 := false) (PW.pt (jw_or (b1 := false) (b2 := false) (jt_not (b1 := true) (jt_val (pt_val (jbB call_isi Z.isi boot_isinstance (ja_cons (je_conv (jv 0 (R := IsPn C p)) tup_at) (ja_cons (jty Z.tuple boot_tuple) ja_nil)) isi_at1)))) fun _ => jw_or (b1 := false) (b2 := false) (jt_eq (jt_cmp (pt_cmpR op_ne (jbB call_len Z.len boot_len (ja_cons (jv 0 (R := IsPn C p)) ja_nil) rc_lenTp) jI (nomark _)) rop_neI) rfl) fun _ => jw_or1 (jt_not (b1 := true) (jt_val (pt_val (je_eq (jbB (cr_all rfl) Z.all boot_all (ja_cons (je_m (jlc (Ry := IsB) (fun _ => true) [("number", 1)] nd (ji_tup (Rx := IsNm C) (xs := [p.1, p.2]) (pi_tup (je_conv (jv 0) pn_ts))) (fun s H C' cl fp x => jg1 1 nd) (fun s H C' cl fp x hx => jc k_is_number (hr.mono (by decide)) x (ja_cons (jv 1) ja_nil) trivial) (line_of (m := 2) (by show 2 ≤ 2; decide)))) ja_nil) rc_all) rfl)))))) (fun h => nomatch h) (fun _ => js_nil rfl)) ?_
  refine js_one (js_ret (je_eq (je_and (b1 := true) (je_eq (je_op (pe_cmpR op_gt (jprop psign (hr.mono (by decide)) p.1 (jc k_ratio_of hr p.1 (ja_cons (je_op (pe_ix ix_tup (jv 0 (R := IsPn C p)) jI (fun _ _ => rfl)) (rop_ixT (j := 0) rfl)) ja_nil) trivial) rfl trivial rfl) jI (nomark _)) rop_gt) ?_) fun _ => pe_one (je_eq (je_op (pe_cmpR op_ge (jprop psign (hr.mono (by decide)) p.2 (jc k_ratio_of hr p.2 (ja_cons (je_op (pe_ix ix_tup (jv 0 (R := IsPn C p)) jI (fun _ _ => rfl)) (rop_ixT (j := 1) rfl)) ja_nil) trivial) rfl trivial rfl) jI (nomark _)) rop_ge) (R' := IsB true) ?_)) rfl))
  · rw [q_sgn_pos, decide_eq_true hp.1]
  · rw [q_sgn_nn, decide_eq_true hp.2]
end
end Gw
set_option maxHeartbeats 4000000
namespace Gw
open PySem PySem.Spec PyProof.Rows L2
section
variable {P : Program} {w : World} {K : PySem.W.Frag} {mg : Str → Option Value} {base : Heap} {C : Addr}
/-- a guess -/
structure GuessP (ps : List (Rat × Rat)) : Prop where
  lo : 1 ≤ ps.length
  hi : ps.length ≤ 4
  part : ∀ p ∈ ps, 0 < p.1 ∧ 0 ≤ p.2
  inc : ∀ q ∈ ps.zip (ps.drop 1), q.1.2 < q.2.2
  one : sumR (ps.map fun p => p.1) = 1
  mean : sumR (ps.map fun p => p.1 * p.2) = 1
  sz : ∀ p ∈ ps, Sz 100 p.1 ∧ Sz 100 p.2
abbrev IsSG (C : Addr) : List (Rat × Rat) → V → Hp → Prop := IsSq (IsPn C)
abbrev IsGQ (C : Addr) : List (Rat × Rat) → V → Hp → Prop := IsL (IsPq C)
abbrev sp_guess_in (C : Addr) : Sp := Pr (ι := List (Rat × Rat)) (fun w => [IsSG C w]) GuessP (fun w => IsGQ C w)
abbrev Kn_guess_in (P : Program) (w : World) (K : PySem.W.Frag) (mg : Str → Option Value) (base : Heap) (C : Addr) : Prop := Kn P w K mg base "guess_in" 8 ["value"] (sp_guess_in C)
theorem ok_guess_in (Z : Glo K mg C) (k_is_list : Kn_is_list P w K mg base C) (k_is_part : Kn_is_part P w K mg base C) (k_ratio_of : Kn_ratio_of P w K mg base C) (mbelow : MethK P w K mg base C "is_below" 6 ["self", "other"] (sp_Ris_below C)) (omul : Opr P w K mg base C .Mult 6 (fun w => Fits w.1 w.2) (· * ·)) (k_total_of : Kn_total_of P w K mg base C) (mk : Mkr P w K mg base C 2) (oeq : EqK P w K mg base C 1) {f : Addr} {fd : FuncData} (Fd : FnP K "guess_in" st_guess_in f fd) : FnOk P w K mg base CX0 8 f fd ["value"] (sp_guess_in C) := by
  refine fn_pr Fd sc_guess_in (fun u => by first | rfl | (cases u <;> rfl)) (fun _ => False) (fun _ _ h => h.elim) (fun X u E hX hp hE => ?_)
  obtain ⟨cdv, A, outer, s, H, E', rfl, hr⟩ := hX
  refine PSs.nox ?_
  have nd := (sc_guess_in).nd
  replace hr : Room 7 (cxOf CX0 P w K mg base N_guess_in "guess_in" (defScope st_guess_in) f cdv A outer s H E').nox.A := hr
  rename List (Rat × Rat) => ps
  have hl : ps.length ≤ 1000 := by have := hp.hi; omega
  obtain ⟨t2, g2⟩ := Z.parts
  refine js_seq (G1 := G0 [IsSG C ps] 7) (js_if (b1 := false) (jt_eq (PW.pt (jw_or (b1 := false) (jt_not (b1 := true) (jt_val (pt_val (jc k_is_list (hr.mono (by decide)) () (ja_cons (je_conv (jv 0 (R := IsSG C ps)) sq_lt) ja_nil) trivial)))) fun _ => jw_or (b1 := false) (b2 := false) (jt_eq (jt_not (jt_chain (pt_chain op_le op_le jI (jbB call_len Z.len boot_len (ja_cons (jv 0 (R := IsSG C ps)) ja_nil) rc_lenS) (jgI g2)) rop_le rop_le)) ?_) fun _ => jw_or1 (jt_not (b1 := true) (jt_val (pt_val (je_eq (jbB (cr_all rfl) Z.all boot_all (ja_cons (je_m (jlc (Ry := IsB) (fun _ => true) [("part", 5)] nd (ji_seq (i := 0) (Rx := IsPn C) (xs := ps) (pi_list (pv 0)) (pi_tup (pv 0)) rfl) (fun s H C' cl fp x => jg1 5 nd) (fun s H C' cl fp x hx => jc k_is_part (hr.mono (by decide)) x (ja_cons (jv 5) ja_nil) (hp.part x hx)) (line_of hl))) ja_nil) rc_all) (by rw [all_true]))))))) rfl) (fun h => nomatch h) (fun _ => js_nil rfl)) ?_
  · have h1 := hp.lo
    have h2 := hp.hi
    simp only [Bool.not_eq_false', Bool.and_eq_true, decide_eq_true_eq]
    omega
  refine js_seq (jslc (i := 1) (Ry := IsPq C) (fun p => p) [("chance", 2), ("worth", 6)] nd (ji_seq (i := 0) (Rx := IsPn C) (xs := ps) (pi_list (pv 0)) (pi_tup (pv 0)) rfl) (fun s H C' cl fp x => jg2 2 6 nd) (fun s H C' cl fp x hx => je_tup (pe_tup (ja_cons (jc k_ratio_of (hr.mono (by decide)) x.1 (ja_cons (jv 2) ja_nil) trivial) (ja_cons (jc k_ratio_of (hr.mono (by decide)) x.2 (ja_cons (jv 6) ja_nil) trivial) ja_nil)))) (line_of hl)) ?_
  rw [List.map_id']
  refine js_frz (i := 1) rfl ?_
  refine js_seq (G1 := [.fz (IsSG C ps), .fz (IsGQ C ps), .un, .un, .un, .un, .un]) (js_if (b1 := false) (jt_not (b1 := true) (jt_val (pt_val (je_eq (jbB (cr_all rfl) Z.all boot_all (ja_cons (je_m (jlc (Ry := IsB) (fun _ => true) [("near", 4), ("far", 3)] nd (ji_zip (Rx := IsPq C) (Ry := IsPq C) (xs := ps) (ys := ps.drop 1) (pi_zip rfl Z.zip (ja_cons (jv 1) (ja_cons (je_m (jm_slice (pe_slice sl_list (jv 1 (R := IsGQ C ps)) (jo_some (jI (i := ((1 : Nat) : Int)))) jo_none) (cut_from _ 1 ps rfl).symm)) ja_nil)))) (fun s H C' cl fp x => jg2 4 3 nd) (fun s H C' cl fp x hx => ?_) (line_of (m := 1000) (by rw [List.length_zip]; omega)))) ja_nil) rc_all) (by rw [all_true]))))) (fun h => nomatch h) (fun _ => js_nil rfl)) ?_
  · obtain ⟨m1, m2⟩ := List.of_mem_zip hx
    have m3 := List.mem_of_mem_drop m2
    refine jmeth mbelow (hr.mono (by decide)) (x.1.2, x.2.2) (je_op (pe_ix ix_tup (jv 4 (R := IsPq C x.1)) jI (fun _ _ => rfl)) (rop_ixT (j := 1) rfl)) (ja_cons (je_conv (je_op (pe_ix ix_tup (jv 3 (R := IsPq C x.2)) jI (fun _ _ => rfl)) (rop_ixT (j := 1) rfl)) isQ_nm) ja_nil) rfl ((hp.sz _ m1).2.fits (hp.sz _ m3).2 (by decide)) ?_
    show IsB (decide (x.1.2 < x.2.2)) = IsB true
    rw [decide_eq_true (hp.inc x hx)]
  have f1 : FitsL 0 (ps.map fun p => p.1) := FitsL.zero (n := 100) (fun x hx => by
    obtain ⟨p, hp', rfl⟩ := List.mem_map.mp hx
    exact (hp.sz p hp').1) (by rw [List.length_map]; have := hp.hi; omega)
  have f2 : FitsL 0 (ps.map fun p => p.1 * p.2) := FitsL.zero (n := 200) (fun x hx => by
    obtain ⟨p, hp', rfl⟩ := List.mem_map.mp hx
    exact (hp.sz p hp').1.mul (hp.sz p hp').2) (by rw [List.length_map]; have := hp.hi; omega)
  refine js_seq (G1 := [.fz (IsSG C ps), .fz (IsGQ C ps), .un, .un, .un, .un, .un]) (js_if (b1 := false) (jt_eq (jneQ oeq (hr.mono (by decide)) (jc k_total_of (hr.mono (by decide)) (ps.map fun p => p.1) (ja_cons (je_m (jlc (Ry := IsQ C) (fun p : Rat × Rat => p.1) [("chance", 2), ("worth", 6)] nd (ji_list (Rx := IsPq C) (xs := ps) (pi_list (jv 1))) (fun s H C' cl fp x => jg2 2 6 nd) (fun s H C' cl fp x hx => jv 2) (line_of hl))) ja_nil) f1) (jmk1 mk (hr.mono (by decide)) (ja_cons jI ja_nil))) ?_) (fun h => nomatch h) (fun _ => js_nil rfl)) ?_
  · rw [hp.one]
    rfl
  refine js_one (js_ret (je_if (b1 := true) (jt_eq (jteqQ oeq (hr.mono (by decide)) (jc k_total_of (hr.mono (by decide)) (ps.map fun p => p.1 * p.2) (ja_cons (je_m (jlc (Ry := IsQ C) (fun p : Rat × Rat => p.1 * p.2) [("chance", 2), ("worth", 6)] nd (ji_list (Rx := IsPq C) (xs := ps) (pi_list (jv 1))) (fun s H C' cl fp x => jg2 2 6 nd) (fun s H C' cl fp x hx => joQ omul (hr.mono (by decide)) (jv 2) (jv 6) ((hp.sz x hx).1.fits (hp.sz x hx).2 (by decide))) (line_of hl))) ja_nil) f2) (jmk1 mk (hr.mono (by decide)) (ja_cons jI ja_nil))) ?_) (fun _ => jv 1) (fun h => nomatch h)))
  rw [hp.mean]
  rfl
/-! ### guesses -/
abbrev sp_want_guesses (C : Addr) : Sp := Pr (ι := List (List (Rat × Rat)) × Nat) (fun w => [IsU w.2, IsSq (IsSG C) w.1]) (fun w => w.1.length = w.2 ∧ w.2 ≤ 1000 ∧ ∀ g ∈ w.1, GuessP g) (fun w => IsL (IsGQ C) w.1)
abbrev Kn_want_guesses (P : Program) (w : World) (K : PySem.W.Frag) (mg : Str → Option Value) (base : Heap) (C : Addr) : Prop := Kn P w K mg base "want_guesses" 9 ["places", "value"] (sp_want_guesses C)
theorem ok_want_guesses (Z : Glo K mg C) (k_is_list : Kn_is_list P w K mg base C) (k_guess_in : Kn_guess_in P w K mg base C) {f : Addr} {fd : FuncData} (Fd : FnP K "want_guesses" st_want_guesses f fd) : FnOk P w K mg base CX0 9 f fd ["places", "value"] (sp_want_guesses C) := by
  refine fn_pr Fd sc_want_guesses (fun u => by first | rfl | (cases u <;> rfl)) (fun _ => False) (fun _ _ h => h.elim) (fun X u E hX hp hE => ?_)
  obtain ⟨cdv, A, outer, s, H, E', rfl, hr⟩ := hX
  refine PSs.nox ?_
  have nd := (sc_want_guesses).nd
  replace hr : Room 8 (cxOf CX0 P w K mg base N_want_guesses "want_guesses" (defScope st_want_guesses) f cdv A outer s H E').nox.A := hr
  obtain ⟨gs, n⟩ := u
  have h1 : gs.length = n := hp.1
  have h2 : n ≤ 1000 := hp.2.1
  have h3 : ∀ g ∈ gs, GuessP g := hp.2.2
  refine js_seq (G1 := G0 [IsU n, IsSq (IsSG C) gs] 4) (js_if (b1 := false) (jt_eq (PW.pt (jw_or (b1 := false) (b2 := false) (jt_not (b1 := true) (jt_val (pt_val (jc k_is_list (hr.mono (by decide)) () (ja_cons (je_conv (jv 1 (R := IsSq (IsSG C) gs)) sq_lt) ja_nil) trivial)))) fun _ => jw_or1 (jt_eq (jt_cmp (pt_cmpR op_ne (jbB call_len Z.len boot_len (ja_cons (jv 1 (R := IsSq (IsSG C) gs)) ja_nil) rc_lenS) (jv 0 (R := IsU n)) (nomark _)) rop_neI) (by rw [h1]; simp)))) rfl) (fun h => nomatch h) (fun _ => js_nil rfl)) ?_
  refine js_seq (jslc (i := 2) (Ry := IsGQ C) (fun p => p) [("guess", 3)] nd (ji_seq (i := 1) (Rx := IsSG C) (xs := gs) (pi_list (pv 1)) (pi_tup (pv 1)) rfl) (fun s H C' cl fp x => jg1 3 nd) (fun s H C' cl fp x hx => jc k_guess_in (hr.mono (by decide)) x (ja_cons (jv 3) ja_nil) (h3 x hx)) (line_of (m := 1000) (by omega))) ?_
  rw [List.map_id']
  refine js_frz (i := 2) rfl ?_
  refine js_seq (G1 := [.fz (IsU n), .fz (IsSq (IsSG C) gs), .fz (IsL (IsGQ C) gs), .un]) (js_if (b1 := false) (jt_val (pt_val (je_eq (jbB (cr_any rfl) Z.any boot_any (ja_cons (je_m (jlc (Ry := IsB) (fun _ => false) [("guess", 3)] nd (ji_list (Rx := IsGQ C) (xs := gs) (pi_list (jv 2))) (fun s H C' cl fp x => jg1 3 nd) (fun s H C' cl fp x hx => je_op (pe_cmpR op_isN (jv 3 (R := IsGQ C x)) jNon (nomark _)) (rop_isN (fun v F h => by
      obtain ⟨a, vs, rfl, _⟩ := h
      rfl))) (line_of (m := 1000) (by omega)))) ja_nil) rc_any) ?_))) (fun h => nomatch h) (fun _ => js_nil rfl)) ?_
  · show IsB _ = IsB false
    congr 1
    simp
  exact js_one (js_ret (jv 2))
/-- a standing: its place, chance, worth -/
abbrev Sd : Type := Nat × Rat × Rat
abbrev IsSd (C : Addr) (s : Sd) : V → Hp → Prop := IsTp [IsU s.1, IsQ C s.2.1, IsQ C s.2.2]
def standOf (q : Nat × List (Rat × Rat)) : List Sd := (q.2.filter fun p => decide (0 < p.2)).map fun p => (q.1, p.1, p.2)
def standR (gs : List (List (Rat × Rat))) : List Sd := ((enumN gs).map standOf).flatten
abbrev sp_standings_of (C : Addr) : Sp := Pr (ι := List (List (Rat × Rat))) (fun w => [IsL (IsGQ C) w]) (fun w => w.length ≤ 10 ∧ ∀ g ∈ w, g.length ≤ 4) (fun w => IsL (IsSd C) (standR w))
theorem standOf_len (q : Nat × List (Rat × Rat)) : (standOf q).length ≤ q.2.length := by
  unfold standOf
  rw [List.length_map]
  exact List.length_filter_le _ _
theorem standR_take {gs : List (List (Rat × Rat))} {i : Nat} {q : Nat × List (Rat × Rat)} (h : (enumN gs)[i]? = some q) : ((((enumN gs).take (i + 1)).map standOf).flatten) = (((enumN gs).take i).map standOf).flatten ++ standOf q := by
  rw [map_take h, List.flatten_append]
  simp
theorem stand_len {qs : List (Nat × List (Rat × Rat))} (h : ∀ q ∈ qs, q.2.length ≤ 4) : ((qs.map standOf).flatten).length ≤ 4 * qs.length := by
  induction qs with
  | nil => simp
  | cons q qs ih =>
    rw [List.map_cons, List.flatten_cons, List.length_append, List.length_cons]
    have h1 := ih (fun q hq => h q (by simp [hq]))
    have h2 := standOf_len q
    have h3 := h q (by simp)
    omega
abbrev Kn_standings_of (P : Program) (w : World) (K : PySem.W.Frag) (mg : Str → Option Value) (base : Heap) (C : Addr) : Prop := Kn P w K mg base "standings_of" 3 ["guesses"] (sp_standings_of C)
theorem ok_standings_of (Z : Glo K mg C) (psign : PropK P w K mg base C "sign" 1 (sp_Rsign C)) {f : Addr} {fd : FuncData} (Fd : FnP K "standings_of" st_standings_of f fd) : FnOk P w K mg base CX0 3 f fd ["guesses"] (sp_standings_of C) := by
  refine fn_pr Fd sc_standings_of (fun u => by first | rfl | (cases u <;> rfl)) (fun _ => False) (fun _ _ h => h.elim) (fun X u E hX hp hE => ?_)
  obtain ⟨cdv, A, outer, s, H, E', rfl, hr⟩ := hX
  refine PSs.nox ?_
  have nd := (sc_standings_of).nd
  replace hr : Room 2 (cxOf CX0 P w K mg base N_standings_of "standings_of" (defScope st_standings_of) f cdv A outer s H E').nox.A := hr
  rename List (List (Rat × Rat)) => gs
  obtain ⟨h1, h2⟩ := hp
  have he : ∀ q ∈ enumN gs, q.2.length ≤ 4 := fun q hq => h2 _ (List.mem_of_getElem? (mem_enumN hq).2)
  refine js_seq (js_setM (Rm := LsOf (IsSd C) []) (ps_set (i := 1) nd rfl (.inl rfl) (jm_ls [] (jm_lst (pe_lst ja_nil))))) ?_
  refine js_cons (N1 := fun G => ∃ s t, G = [.fz (IsL (IsGQ C) gs), .mt (LsOf (IsSd C) (standR gs)), s, t, .un, .un]) (js_for PassesOwn.never rfl (ji_enumN (Rx := IsGQ C) (xs := gs) (pi_enum rfl Z.enum (ja_cons (jv 0) ja_nil))) (fun x => jg2 2 3 nd) (fun i G => ∃ s t, G = [.fz (IsL (IsGQ C) gs), .mt (LsOf (IsSd C) ((((enumN gs).take i).map standOf).flatten)), s, t, .un, .un]) ⟨_, _, rfl⟩ ?_ (fun G1 h => by rwa [List.take_length] at h)) ?_
  · rintro i ⟨n, g⟩ G1 hi ⟨s, t, rfl⟩
    have hm := List.mem_of_getElem? hi
    have hg : g.length ≤ 4 := he _ hm
    refine js_one (js_N (js_extend (Rx := IsSd C) (ys := standOf (n, g)) (Rm' := LsOf (IsSd C) ((((enumN gs).take (i + 1)).map standOf).flatten)) (ps_expr (pe_bm PySem.F.plainAttrs_list PySem.F.slot_list_extend PySem.F.type_list_extend mt_extend (pv 1) (pa_cons (je_m (jm_lc (X := _) (own := [("chance", 4), ("worth", 5)]) (fun p : Rat × Rat => decide (0 < p.2)) (fun p : Rat × Rat => (n, p.1, p.2)) rfl nd (ji_list (Rx := IsPq C) (xs := g) (pi_list (jv 3))) (blkOk_by (by kernel_rfl)) (by decide) (fun s H C' cl fp x => jg2 4 5 nd) (fun s H C' cl fp x hx => jts_one (jt_eq (jt_cmp (pt_cmpR op_gt (jprop psign hr x.2 (jv 5 (R := IsQ C x.2)) rfl trivial rfl) jI (nomark _)) rop_gt) (by rw [q_sgn_pos]))) (fun s H C' cl fp x hx _ => je_tup (pe_tup (ja_cons (jv 2 (R := IsU n)) (ja_cons (jv 4) (ja_cons (jv 5) ja_nil))))) (line_of (m := 1000) (by show g.length ≤ 1000; omega)))) pa_nil))) rfl (fun vs ws F a b => ?_) (fun vs F a => ?_)) ?_)
    · rw [standR_take hi]
      exact LsOf.up (paired_app a.here b)
    · rw [← a.len]
      have h3 := stand_len (qs := (enumN gs).take i) (fun q hq => he q (List.mem_of_mem_take hq))
      have h4 := standOf_len (n, g)
      have h5 : ((enumN gs).take i).length ≤ 10 := by rw [List.length_take, enumN_len]; omega
      have h6 : (100000 : Nat) ≤ sizeLine := by decide
      have h7 : (standOf (n, g)).length ≤ 4 := Nat.le_trans h4 hg
      omega
    · rintro G' rfl
      exact ⟨_, _, rfl⟩
  · rintro _ ⟨s, t, rfl⟩
    exact js_one (js_retV (pv 1) rfl)
end
end Gw
/-! Plain: the flows of standings, what is ahead, the table. -/
namespace Gw
abbrev St3 : Type := Nat × Rat × Rat
def hereR (rows : List (List Rat)) (ws : List Rat) (a b : St3) : Rat := ws[a.1]! * a.2.2 * (rows[a.1]!)[b.1]!
def flowR (rows : List (List Rat)) (ws : List Rat) (a b : St3) : Rat := a.2.1 * b.2.1 * (if hereR rows ws a b < hereR rows ws b a then hereR rows ws a b else hereR rows ws b a)
/-- rows, weights of n places, with sizes -/
structure RowsOk (n : Nat) (rows : List (List Rat)) (ws : List Rat) : Prop where
  rl : rows.length = n
  rr : ∀ r ∈ rows, r.length = n
  wl : ws.length = n
  rs : ∀ r ∈ rows, ∀ x ∈ r, Sz 60 x
  wz : ∀ x ∈ ws, Sz 60 x
  hn : n ≤ 10
structure SdOk (n : Nat) (s : St3) : Prop where
  lt : s.1 < n
  c : Sz 100 s.2.1
  w : Sz 100 s.2.2
theorem get_mem {α : Type} [Inhabited α] {xs : List α} {i : Nat} (h : i < xs.length) : xs[i]! ∈ xs := by
  rw [getElem!_pos xs i h]
  exact List.getElem_mem h
section
variable {n : Nat} {rows : List (List Rat)} {ws : List Rat} {a b : St3}
theorem RowsOk.row (h : RowsOk n rows ws) {i : Nat} (hi : i < n) : (rows[i]!).length = n := h.rr _ (get_mem (by rw [h.rl]; exact hi))
theorem RowsOk.szr (h : RowsOk n rows ws) {i j : Nat} (hi : i < n) (hj : j < n) : Sz 60 (rows[i]!)[j]! := h.rs _ (get_mem (by rw [h.rl]; exact hi)) _ (get_mem (by rw [h.row hi]; exact hj))
theorem RowsOk.szw (h : RowsOk n rows ws) {i : Nat} (hi : i < n) : Sz 60 ws[i]! := h.wz _ (get_mem (by rw [h.wl]; exact hi))
theorem sz_here (h : RowsOk n rows ws) (ha : SdOk n a) (hb : SdOk n b) : Sz 220 (hereR rows ws a b) := ((h.szw ha.lt).mul ha.w).mul (h.szr ha.lt hb.lt)
theorem sz_flow (h : RowsOk n rows ws) (ha : SdOk n a) (hb : SdOk n b) : Sz 420 (flowR rows ws a b) := by
  have h2 : Sz 220 (if hereR rows ws a b < hereR rows ws b a then hereR rows ws a b else hereR rows ws b a) := by
    split
    · exact sz_here h ha hb
    · exact sz_here h hb ha
  exact (ha.c.mul hb.c).mul h2
end
def flowsR (rows : List (List Rat)) (ws : List Rat) (ss : List St3) : List (List Rat) := (ss.zipIdx).map fun p => (ss.zipIdx).map fun q => if p.2 = q.2 then 0 else flowR rows ws p.1 q.1
/-- places that hang together by positive flows -/
def Conn (flows : List (List Rat)) : Prop := ∀ S : Nat → Prop, S 0 → (∀ i j, S i → i < flows.length → j < flows.length → 0 < (flows[i]!)[j]! → S j) → ∀ i, i < flows.length → S i
/-- the search's state -/
structure JInv (flows : List (List Rat)) (met late : List Nat) : Prop where
  nd : met.Nodup
  lt : ∀ x ∈ met, x < flows.length
  sub : ∀ x ∈ late, x ∈ met
  z : 0 ∈ met
  ln : late.Nodup
  cl : ∀ x ∈ met, x ∉ late → ∀ y, y < flows.length → 0 < (flows[x]!)[y]! → y ∈ met
theorem nodup_le {n : Nat} {xs : List Nat} (h : xs.Nodup) (hl : ∀ x ∈ xs, x < n) : xs.length ≤ n := by
  have := List.Nodup.length_le_of_subset h (l₂ := List.range n) (fun x hx => List.mem_range.mpr (hl x hx))
  simpa using this
theorem JInv.late_le {flows : List (List Rat)} {met late : List Nat} (h : JInv flows met late) : late.length ≤ flows.length := nodup_le h.ln (fun x hx => h.lt x (h.sub x hx))
theorem JInv.full {flows : List (List Rat)} {met : List Nat} (h : JInv flows met []) (c : Conn flows) : met.length = flows.length := by
  have h1 := nodup_le h.nd h.lt
  have h2 := c (fun x => x ∈ met) h.z (fun i j hi hi2 hj hf => h.cl i hi (by simp) j hj hf)
  have h3 := List.Nodup.length_le_of_subset (List.nodup_range (n := flows.length)) (l₂ := met) (fun x hx => h2 x (List.mem_range.mp hx))
  rw [List.length_range] at h3
  omega
def moreR (flows : List (List Rat)) (at_ : Nat) (met : List Nat) : List Nat := ((flows[at_]!.zipIdx.map fun p => (p.2, p.1)).filter fun q => decide (0 < q.2) && !decide (q.1 ∈ met)).map fun q => q.1
theorem mem_moreR {flows : List (List Rat)} {at_ : Nat} {met : List Nat} {x : Nat} (hr : (flows[at_]!).length = flows.length) : x ∈ moreR flows at_ met ↔ x < flows.length ∧ 0 < (flows[at_]!)[x]! ∧ x ∉ met := by
  unfold moreR
  rw [List.mem_map]
  constructor
  · rintro ⟨q, hq, rfl⟩
    obtain ⟨h1, h2⟩ := List.mem_filter.mp hq
    obtain ⟨⟨y, i⟩, h3, rfl⟩ := List.mem_map.mp h1
    have h4 := List.mem_zipIdx' h3
    simp only [Bool.and_eq_true, decide_eq_true_eq, Bool.not_eq_true', decide_eq_false_iff_not] at h2
    refine ⟨by have := h4.1; omega, ?_, h2.2⟩
    rw [getElem!_pos _ i h4.1, ← h4.2]
    exact h2.1
  · rintro ⟨h1, h2, h3⟩
    have hl : x < (flows[at_]!).length := by omega
    refine ⟨(x, (flows[at_]!)[x]), List.mem_filter.mpr ⟨List.mem_map.mpr ⟨((flows[at_]!)[x], x), ?_, rfl⟩, ?_⟩, rfl⟩
    · rw [List.mem_zipIdx_iff_getElem?]
      exact List.getElem?_eq_getElem hl
    · rw [getElem!_pos _ x hl] at h2
      simp only [Bool.and_eq_true, decide_eq_true_eq, Bool.not_eq_true', decide_eq_false_iff_not]
      exact ⟨h2, h3⟩
theorem nodup_moreR {flows : List (List Rat)} {at_ : Nat} {met : List Nat} : (moreR flows at_ met).Nodup := by
  have h1 : (flows[at_]!.zipIdx.map fun p => (p.2, p.1)).map (fun q : Nat × Rat => q.1) = List.range (flows[at_]!).length := by
    rw [List.map_map]
    apply List.ext_getElem
    · simp
    · intro i h1 h2
      simp
  unfold moreR
  have h2 : List.Sublist (((flows[at_]!.zipIdx.map fun p => (p.2, p.1)).filter fun q => decide (0 < q.2) && !decide (q.1 ∈ met)).map fun q => q.1) ((flows[at_]!.zipIdx.map fun p => (p.2, p.1)).map (fun q : Nat × Rat => q.1)) := (List.filter_sublist).map _
  rw [h1] at h2
  exact List.nodup_range.sublist h2
theorem JInv.step {flows : List (List Rat)} {met late : List Nat} {at_ : Nat} (h : JInv flows met (late ++ [at_])) (hr : ∀ r ∈ flows, r.length = flows.length) : JInv flows (met ++ moreR flows at_ met) (late ++ moreR flows at_ met) := by
  have ha : at_ ∈ met := h.sub at_ (by simp)
  have hl := h.lt at_ ha
  have hrow : (flows[at_]!).length = flows.length := hr _ (get_mem hl)
  refine ⟨?_, fun x hx => ?_, fun x hx => ?_, List.mem_append_left _ h.z, ?_, fun x hx hn y hy hf => ?_⟩
  · rw [List.nodup_append]
    refine ⟨h.nd, nodup_moreR, fun a h1 b h2 e => ?_⟩
    subst e
    exact ((mem_moreR hrow).mp h2).2.2 h1
  · rcases List.mem_append.mp hx with q | q
    · exact h.lt x q
    · exact ((mem_moreR hrow).mp q).1
  · rcases List.mem_append.mp hx with q | q
    · exact List.mem_append_left _ (h.sub x (List.mem_append_left _ q))
    · exact List.mem_append_right _ q
  · have h1 := h.ln
    rw [List.nodup_append] at h1
    rw [List.nodup_append]
    refine ⟨h1.1, nodup_moreR, fun a h1 b h2 e => ?_⟩
    subst e
    exact ((mem_moreR hrow).mp h2).2.2 (h.sub a (List.mem_append_left _ h1))
  · rcases List.mem_append.mp hx with q | q
    · by_cases hx2 : x ∈ late ++ [at_]
      · rcases List.mem_append.mp hx2 with q2 | q2
        · exact absurd (List.mem_append_left _ q2) hn
        · have e : x = at_ := by simpa using q2
          subst e
          by_cases hm : y ∈ met
          · exact List.mem_append_left _ hm
          · exact List.mem_append_right _ ((mem_moreR hrow).mpr ⟨hy, hf, hm⟩)
      · exact List.mem_append_left _ (h.cl x q hx2 y hy hf)
    · exact absurd (List.mem_append_right _ q) hn
theorem JInv.start {flows : List (List Rat)} (h : 0 < flows.length) : JInv flows [0] [0] := ⟨by simp, fun x hx => by simp at hx; omega, fun x hx => hx, by simp, by simp, fun x hx hn => absurd hx hn⟩
/-! ### what is ahead, the table -/
def lapRow (flow : List Rat) (at_ : Nat) (goals : List (List Rat)) : List Rat := (flow.map fun one => 0 - one).set at_ (sumR flow) ++ goals.map fun g => g[at_]!
def lapRows (flows : List (List Rat)) (goals : List (List Rat)) : List (List Rat) := flows.zipIdx.map fun p => lapRow p.1 p.2 goals
def headQ (row : List Rat) : Nat := headOf (row.map fun q => q.num)
/-- the k-th list of what is ahead -/
def aheadOf (n : Nat) (rows : List (List Rat)) (k : Nat) : List Rat := rows.foldl (fun l row => l.set (headQ row) (row[n + k]!)) (List.replicate n 0)
def aheadsR (flows : List (List Rat)) (goals : List (List Rat)) : List (List Rat) := (List.range goals.length).map fun k => aheadOf flows.length (steps_ofR (lapRows flows goals)) k
def sharesR (ws : List Rat) : List Rat := ws.map fun w => w / sumR ws
def goalOf (ws : List Rat) (ss : List St3) (place : Nat) (share : Rat) : List Rat := ss.map fun one => ws[one.1]! * one.2.1 * one.2.2 * ((if one.1 = place then (1 : Rat) else 0) - share)
def goalsR (ws : List Rat) (ss : List St3) : List (List Rat) := (sharesR ws).zipIdx.map fun p => goalOf ws ss p.2 p.1
def bothR (ws : List Rat) (goal ahead : List Rat) : Rat := sumR ((goal.zip ahead).map fun q => q.1 * q.2) / sumR ws
def cellR (ws : List Rat) (goals aheads : List (List Rat)) (place spot : Nat) : Rat := bothR ws goals[place]! aheads[spot]! * 2 - (sharesR ws)[place]! * ((if place = spot then (1 : Rat) else 0) - (sharesR ws)[spot]!)
def tableR (ws : List Rat) (ss : List St3) (flows : List (List Rat)) : List (List Rat) := (List.range ws.length).map fun place => (List.range ws.length).map fun spot => cellR ws (goalsR ws ss) (aheadsR flows (goalsR ws ss)) place spot
end Gw
set_option maxHeartbeats 4000000
namespace Gw
open PySem PySem.Spec PyProof.Rows L2
section
variable {P : Program} {w : World} {K : PySem.W.Frag} {mg : Str → Option Value} {base : Heap} {C : Addr}
abbrev sp_want_at_most (_ : Addr) : Sp := Pr (ι := Str × Int × Int) (fun w => [IsS w.1, IsI w.2.1, IsI w.2.2]) (fun w => w.2.2 ≤ w.2.1) (fun w => IsN)
abbrev Kn_want_at_most (P : Program) (w : World) (K : PySem.W.Frag) (mg : Str → Option Value) (base : Heap) (C : Addr) : Prop := Kn P w K mg base "want_at_most" 1 ["what", "limit", "number"] (sp_want_at_most C)
theorem ok_want_at_most {f : Addr} {fd : FuncData} (Fd : FnP K "want_at_most" st_want_at_most f fd) : FnOk P w K mg base CX0 1 f fd ["what", "limit", "number"] (sp_want_at_most C) := by
  refine fn_pr Fd sc_want_at_most (fun u => rfl) (fun G => ∃ u : Str × Int × Int, G = G0 [IsS u.1, IsI u.2.1, IsI u.2.2] 3) (fun G u _ F => rfl) (fun X u E hX hp hE => ?_)
  obtain ⟨cdv, A, outer, s, H, E', rfl, hr⟩ := hX
  refine PSs.nox ?_
  obtain ⟨s1, i, j⟩ := u
  have hp : j ≤ i := hp
  exact js_one (js_if (b1 := false) (jt_eq (jt_cmp (pt_cmpR op_gt (jv 2 (R := IsI j)) (jv 1 (R := IsI i)) (nomark _)) rop_gt) (decide_eq_false (by omega))) (fun h => nomatch h) (fun _ => js_nil ⟨(s1, i, j), rfl⟩))
abbrev sp_flow_between (C : Addr) : Sp := Pr (ι := List (List Rat) × List Rat × Sd × Sd) (fun w => [IsQM C w.1, IsL (IsQ C) w.2.1, IsSd C w.2.2.1, IsSd C w.2.2.2]) (fun w => ∃ n, RowsOk n w.1 w.2.1 ∧ SdOk n w.2.2.1 ∧ SdOk n w.2.2.2) (fun w => IsQ C (flowR w.1 w.2.1 w.2.2.1 w.2.2.2))
abbrev Kn_flow_between (P : Program) (w : World) (K : PySem.W.Frag) (mg : Str → Option Value) (base : Heap) (C : Addr) : Prop := Kn P w K mg base "flow_between" 7 ["rows", "weights", "near", "far"] (sp_flow_between C)
theorem ok_flow_between (Z : Glo K mg C) (omul : Opr P w K mg base C .Mult 6 (fun w => Fits w.1 w.2) (· * ·)) (mbelow : MethK P w K mg base C "is_below" 6 ["self", "other"] (sp_Ris_below C)) {f : Addr} {fd : FuncData} (Fd : FnP K "flow_between" st_flow_between f fd) : FnOk P w K mg base CX0 7 f fd ["rows", "weights", "near", "far"] (sp_flow_between C) := by
  refine fn_pr Fd sc_flow_between (fun u => by first | rfl | (cases u <;> rfl)) (fun _ => False) (fun _ _ h => h.elim) (fun X u E hX hp hE => ?_)
  obtain ⟨cdv, A, outer, s, H, E', rfl, hr⟩ := hX
  refine PSs.nox ?_
  have nd := (sc_flow_between).nd
  replace hr : Room 6 (cxOf CX0 P w K mg base N_flow_between "flow_between" (defScope st_flow_between) f cdv A outer s H E').nox.A := hr
  obtain ⟨rows, ws, a, b⟩ := u
  obtain ⟨n, hR, ha, hb⟩ := hp
  have hR : RowsOk n rows ws := hR
  have ha : SdOk n a := ha
  have hb : SdOk n b := hb
  have la := ha.lt
  have lb := hb.lt
  have lw := hR.wl
  have lr := hR.rl
  refine js_seq (js_set (R := IsQ C (hereR rows ws a b)) (ps_set (i := 4) nd rfl (.inl rfl) (joQ omul hr (joQ omul hr (je_op (pe_ix ix_list (jv 1 (R := IsL (IsQ C) ws)) (je_op (pe_ix ix_tup (jv 2 (R := IsSd C a)) jI (fun _ _ => rfl)) (rop_ixT (j := 0) rfl)) (fun _ _ => rfl)) (rop_ixB (by omega))) (je_op (pe_ix ix_tup (jv 2 (R := IsSd C a)) jI (fun _ _ => rfl)) (rop_ixT (j := 2) rfl)) ((hR.szw la).fits ha.w (by decide))) (je_op (pe_ix ix_list (je_op (pe_ix ix_list (jv 0 (R := IsQM C rows)) (je_op (pe_ix ix_tup (jv 2 (R := IsSd C a)) jI (fun _ _ => rfl)) (rop_ixT (j := 0) rfl)) (fun _ _ => rfl)) (rop_ixB (by omega))) (je_op (pe_ix ix_tup (jv 3 (R := IsSd C b)) jI (fun _ _ => rfl)) (rop_ixT (j := 0) rfl)) (fun _ _ => rfl)) (rop_ixB (by rw [hR.row la]; exact lb))) (((hR.szw la).mul ha.w).fits (hR.szr la lb) (by decide))))) ?_
  refine js_seq (js_set (R := IsQ C (hereR rows ws b a)) (ps_set (i := 5) nd rfl (.inl rfl) (joQ omul hr (joQ omul hr (je_op (pe_ix ix_list (jv 1 (R := IsL (IsQ C) ws)) (je_op (pe_ix ix_tup (jv 3 (R := IsSd C b)) jI (fun _ _ => rfl)) (rop_ixT (j := 0) rfl)) (fun _ _ => rfl)) (rop_ixB (by omega))) (je_op (pe_ix ix_tup (jv 3 (R := IsSd C b)) jI (fun _ _ => rfl)) (rop_ixT (j := 2) rfl)) ((hR.szw lb).fits hb.w (by decide))) (je_op (pe_ix ix_list (je_op (pe_ix ix_list (jv 0 (R := IsQM C rows)) (je_op (pe_ix ix_tup (jv 3 (R := IsSd C b)) jI (fun _ _ => rfl)) (rop_ixT (j := 0) rfl)) (fun _ _ => rfl)) (rop_ixB (by omega))) (je_op (pe_ix ix_tup (jv 2 (R := IsSd C a)) jI (fun _ _ => rfl)) (rop_ixT (j := 0) rfl)) (fun _ _ => rfl)) (rop_ixB (by rw [hR.row lb]; exact la))) (((hR.szw lb).mul hb.w).fits (hR.szr lb la) (by decide))))) ?_
  have s1 := sz_here hR ha hb
  have s2 := sz_here hR hb ha
  have s3 : Sz 220 (if hereR rows ws a b < hereR rows ws b a then hereR rows ws a b else hereR rows ws b a) := by
    split
    · exact s1
    · exact s2
  refine js_one (js_ret (joQ omul hr (joQ omul hr (je_op (pe_ix ix_tup (jv 2 (R := IsSd C a)) jI (fun _ _ => rfl)) (rop_ixT (j := 1) rfl)) (je_op (pe_ix ix_tup (jv 3 (R := IsSd C b)) jI (fun _ _ => rfl)) (rop_ixT (j := 1) rfl)) (ha.c.fits hb.c (by decide))) (je_if (R := IsQ C (if hereR rows ws a b < hereR rows ws b a then hereR rows ws a b else hereR rows ws b a)) (b1 := decide (hereR rows ws a b < hereR rows ws b a)) (jt_val (pt_val (jmeth mbelow hr (hereR rows ws a b, hereR rows ws b a) (jv 4) (ja_cons (je_conv (jv 5) isQ_nm) ja_nil) rfl (s1.fits s2 (by decide))))) (fun h => je_eq (jv 4) (by rw [if_pos (of_decide_eq_true h)])) (fun h => je_eq (jv 5) (by rw [if_neg (of_decide_eq_false h)]))) ((ha.c.mul hb.c).fits s3 (by decide))))
theorem enumN_eq {α : Type} (xs : List α) : enumN xs = xs.zipIdx.map fun p => (p.2, p.1) := rfl
theorem flowsR_enum (rows : List (List Rat)) (ws : List Rat) (ss : List Sd) : flowsR rows ws ss = (enumN ss).map fun p => (enumN ss).map fun q => if p.1 = q.1 then 0 else flowR rows ws p.2 q.2 := by
  unfold flowsR enumN
  rw [List.map_map]
  refine List.map_congr_left fun p _ => ?_
  simp only [Function.comp, List.map_map]
  rfl
abbrev sp_flows_of_standings (C : Addr) : Sp := Pr (ι := List (List Rat) × List Rat × List Sd) (fun w => [IsQM C w.1, IsL (IsQ C) w.2.1, IsL (IsSd C) w.2.2]) (fun w => ∃ n, RowsOk n w.1 w.2.1 ∧ w.2.2.length ≤ 100 ∧ ∀ s ∈ w.2.2, SdOk n s) (fun w => IsQM C (flowsR w.1 w.2.1 w.2.2))
abbrev Kn_flows_of_standings (P : Program) (w : World) (K : PySem.W.Frag) (mg : Str → Option Value) (base : Heap) (C : Addr) : Prop := Kn P w K mg base "flows_of_standings" 8 ["rows", "weights", "standings"] (sp_flows_of_standings C)
theorem ok_flows_of_standings (Z : Glo K mg C) (mk : Mkr P w K mg base C 2) (k_flow_between : Kn_flow_between P w K mg base C) {f : Addr} {fd : FuncData} (Fd : FnP K "flows_of_standings" st_flows_of_standings f fd) : FnOk P w K mg base CX0 8 f fd ["rows", "weights", "standings"] (sp_flows_of_standings C) := by
  refine fn_pr Fd sc_flows_of_standings (fun u => by first | rfl | (cases u <;> rfl)) (fun _ => False) (fun _ _ h => h.elim) (fun X u E hX hp hE => ?_)
  obtain ⟨cdv, A, outer, s, H, E', rfl, hr⟩ := hX
  refine PSs.nox ?_
  have nd := (sc_flows_of_standings).nd
  replace hr : Room 7 (cxOf CX0 P w K mg base N_flows_of_standings "flows_of_standings" (defScope st_flows_of_standings) f cdv A outer s H E').nox.A := hr
  obtain ⟨rows, ws, ss⟩ := u
  obtain ⟨n, hR, hz, hs⟩ := hp
  have hR : RowsOk n rows ws := hR
  have hz : ss.length ≤ 100 := hz
  have hs : ∀ s ∈ ss, SdOk n s := hs
  show PSs _ _ (tS E _ (Rn (IsQM C (flowsR rows ws ss))) _)
  rw [flowsR_enum]
  refine js_seq (js_setM (Rm := LsOf (IsL (IsQ C)) []) (ps_set (i := 3) nd rfl (.inl rfl) (jm_ls [] (jm_lst (pe_lst ja_nil))))) ?_
  refine js_cons (N1 := fun G => ∃ s4 s5 s6 s7 s8, G = [.fz (IsQM C rows), .fz (IsL (IsQ C) ws), .fz (IsL (IsSd C) ss), .mt (LsOf (IsL (IsQ C)) ((enumN ss).map fun p => (enumN ss).map fun q => if p.1 = q.1 then 0 else flowR rows ws p.2 q.2)), s4, s5, s6, s7, s8]) (js_for PassesOwn.never rfl (ji_enumN (Rx := IsSd C) (xs := ss) (pi_enum rfl Z.enum (ja_cons (jv 2) ja_nil))) (fun x => jg2 4 5 nd)
    (fun i G => ∃ s4 s5 s6 s7 s8, G = [.fz (IsQM C rows), .fz (IsL (IsQ C) ws), .fz (IsL (IsSd C) ss), .mt (LsOf (IsL (IsQ C)) (((enumN ss).take i).map fun p => (enumN ss).map fun q => if p.1 = q.1 then 0 else flowR rows ws p.2 q.2)), s4, s5, s6, s7, s8]) ⟨_, _, _, _, _, rfl⟩ ?_ (fun G1 h => by rwa [List.take_length] at h)) ?_
  · rintro i p G1 hi ⟨s4, s5, s6, s7, s8, rfl⟩
    have hpm := List.mem_of_getElem? (mem_enumN (List.mem_of_getElem? hi)).2
    refine js_seq (js_setM (Rm := LsOf (IsQ C) []) (ps_set (i := 6) nd rfl (.inl rfl) (jm_ls [] (jm_lst (pe_lst ja_nil))))) ?_
    refine js_cons (N1 := fun G => ∃ s7 s8, G = [.fz (IsQM C rows), .fz (IsL (IsQ C) ws), .fz (IsL (IsSd C) ss), .mt (LsOf (IsL (IsQ C)) (((enumN ss).take i).map fun p => (enumN ss).map fun q => if p.1 = q.1 then 0 else flowR rows ws p.2 q.2)), .fz (IsU p.1), .fz (IsSd C p.2), .mt (LsOf (IsQ C) ((enumN ss).map fun q => if p.1 = q.1 then 0 else flowR rows ws p.2 q.2)), s7, s8]) (js_for PassesOwn.never rfl (ji_enumN (Rx := IsSd C) (xs := ss) (pi_enum rfl Z.enum (ja_cons (jv 2) ja_nil))) (fun x => jg2 7 8 nd)
      (fun j G => ∃ s7 s8, G = [.fz (IsQM C rows), .fz (IsL (IsQ C) ws), .fz (IsL (IsSd C) ss), .mt (LsOf (IsL (IsQ C)) (((enumN ss).take i).map fun p => (enumN ss).map fun q => if p.1 = q.1 then 0 else flowR rows ws p.2 q.2)), .fz (IsU p.1), .fz (IsSd C p.2), .mt (LsOf (IsQ C) (((enumN ss).take j).map fun q => if p.1 = q.1 then 0 else flowR rows ws p.2 q.2)), s7, s8]) ⟨_, _, rfl⟩ ?_ (fun G1 h => by rwa [List.take_length] at h)) ?_
    · rintro j q G1 hj ⟨s7, s8, rfl⟩
      have hqm := List.mem_of_getElem? (mem_enumN (List.mem_of_getElem? hj)).2
      refine js_one (js_N (js_append (i := 6) (R := IsQ C (if p.1 = q.1 then 0 else flowR rows ws p.2 q.2)) (Rm' := LsOf (IsQ C) (((enumN ss).take (j + 1)).map fun q => if p.1 = q.1 then 0 else flowR rows ws p.2 q.2)) (ps_expr (pe_bm PySem.F.plainAttrs_list PySem.F.slot_list_append PySem.F.type_list_append mt_append (pv 6) (pa_cons (je_if (b1 := decide ((p.1 : Int) = (q.1 : Int))) (jt_cmp (pt_cmpR op_eq (jv 4 (R := IsU p.1)) (jv 7 (R := IsU q.1)) (nomark _)) rop_eqI) (fun h => je_eq (jmk1 mk (hr.mono (by decide)) (ja_cons jI ja_nil)) ?_) (fun h => je_eq (jc k_flow_between hr (rows, ws, p.2, q.2) (ja_cons (jv 0) (ja_cons (jv 1) (ja_cons (jv 5) (ja_cons (jv 8) ja_nil)))) ⟨n, hR, hs _ hpm, hs _ hqm⟩) ?_)) pa_nil))) rfl (fun vs v F a b => ?_) (fun vs F a => ?_)) ?_)
      · have h := of_decide_eq_true h
        rw [if_pos (by omega)]
        rfl
      · have h := of_decide_eq_false h
        rw [if_neg (by omega)]
      · rw [map_take hj]
        exact (a.here.snoc b).up
      · rw [← a.len, List.length_map, List.length_take, enumN_len]
        exact line_of (m := 1000) (by omega)
      · rintro G' rfl
        exact ⟨_, _, rfl⟩
    · rintro _ ⟨s7, s8, rfl⟩
      refine js_one (js_N (js_appendM (i := 3) (j := 6) (Rm' := LsOf (IsL (IsQ C)) (((enumN ss).take (i + 1)).map fun p => (enumN ss).map fun q => if p.1 = q.1 then 0 else flowR rows ws p.2 q.2)) (ps_expr (pe_bm PySem.F.plainAttrs_list PySem.F.slot_list_append PySem.F.type_list_append mt_append (pv 3) (pa_cons (pv 6) pa_nil))) (by decide) rfl rfl (fun vs v F a b => ?_) (fun vs F a => ?_)) ?_)
      · rw [map_take hi]
        exact (a.here.snoc b).up
      · rw [← a.len, List.length_map, List.length_take, enumN_len]
        exact line_of (m := 1000) (by omega)
      · rintro G' rfl
        exact ⟨_, _, _, _, _, rfl⟩
  · rintro _ ⟨s4, s5, s6, s7, s8, rfl⟩
    exact js_one (js_retV (pv 3) rfl)
abbrev sp_is_joined (C : Addr) : Sp := Pr (ι := List (List Rat)) (fun w => [IsQM C w]) (fun w => 0 < w.length ∧ w.length ≤ 100 ∧ (∀ r ∈ w, r.length = w.length) ∧ Conn w) (fun w => IsB true)
abbrev Kn_is_joined (P : Program) (w : World) (K : PySem.W.Frag) (mg : Str → Option Value) (base : Heap) (C : Addr) : Prop := Kn P w K mg base "is_joined" 3 ["flows"] (sp_is_joined C)
theorem ok_is_joined (Z : Glo K mg C) (psign : PropK P w K mg base C "sign" 1 (sp_Rsign C)) {f : Addr} {fd : FuncData} (Fd : FnP K "is_joined" st_is_joined f fd) : FnOk P w K mg base CX0 3 f fd ["flows"] (sp_is_joined C) := by
  refine fn_pr Fd sc_is_joined (fun u => by first | rfl | (cases u <;> rfl)) (fun _ => False) (fun _ _ h => h.elim) (fun X u E hX hp hE => ?_)
  obtain ⟨cdv, A, outer, s, H, E', rfl, hr⟩ := hX
  refine PSs.nox ?_
  have nd := (sc_is_joined).nd
  replace hr : Room 2 (cxOf CX0 P w K mg base N_is_joined "is_joined" (defScope st_is_joined) f cdv A outer s H E').nox.A := hr
  rename List (List Rat) => fl
  obtain ⟨h0, hz, hrr, hc⟩ := hp
  refine js_seq (js_asgMM (i := 1) (j := 2) (Rm := LsOf IsU [0]) (Rl := LsOf IsU [0]) (by decide) (ps_asg (pe_tup (pa_cons (jm_ls [0] (jm_lst (pe_lst (ja_cons jI ja_nil)))) (pa_cons (jm_ls [0] (jm_lst (pe_lst (ja_cons jI ja_nil)))) pa_nil))) (pg_tup rfl (pgs_cons (gN 1 nd) (pgs_cons (gN 2 nd) pgs_nil))))) ?_
  refine js_cons (N1 := fun G => ∃ met s3 s4, JInv fl met [] ∧ G = [.fz (IsQM C fl), .mt (LsOf IsU met), .mt (LsOf IsU []), s3, s4, .un, .un]) (js_while PassesOwn.never (m0 := 2 * (fl.length - 1) + 1) (fun m G => ∃ met late s3 s4, m = 2 * (fl.length - met.length) + late.length ∧ late.length ≤ 1000 ∧ JInv fl met late ∧ G = [.fz (IsQM C fl), .mt (LsOf IsU met), .mt (LsOf IsU late), s3, s4, .un, .un]) ⟨[0], [0], _, _, rfl, by decide, JInv.start h0, rfl⟩ ?_) ?_
  · rintro m G1 ⟨met, late, s3, s4, hm, hl, hJ, rfl⟩
    refine ⟨!(late.map fun (n : Nat) => (n : Int)).isEmpty, jt_view (i := 2) rfl (jt_cmp (pt_cmpR (op_neD hr.units) (je_conv (jv 2) isU_lst) (je_m (jm_ls [] (jm_lst (pe_lst ja_nil)))) (nomark _)) rop_neNil), fun hb => ?_, fun hb => ?_⟩
    · have hne : late ≠ [] := fun e => by subst e; exact absurd hb (by decide)
      obtain ⟨late', at_, rfl⟩ : ∃ l x, late = l ++ [x] := ⟨late.dropLast, late.getLast hne, (List.dropLast_concat_getLast hne).symm⟩
      have ha : at_ ∈ met := hJ.sub at_ (by simp)
      have hal := hJ.lt at_ ha
      have hJ2 := hJ.step hrr
      have hml := nodup_le hJ.nd hJ.lt
      have hml2 := nodup_le hJ2.nd hJ2.lt
      rw [List.length_append] at hml2
      have hl1 : late'.length + 1 ≤ 1000 := by simpa using hl
      refine js_seq (js_pop (i := 2) (j := 3) (R := IsU at_) (Rm' := LsOf IsU late') (ps_set (i := 3) nd rfl (.inl rfl) (pe_bm0 PySem.F.plainAttrs_list PySem.F.slot_list_pop PySem.F.type_list_pop mt_pop (pv 2))) (by decide) rfl (fun vs F u => ?_)) ?_
      · have hh := u.here
        have hlen := hh.len
        rw [List.length_append] at hlen
        obtain ⟨v, hv, uv⟩ := hh.get (i := late'.length) (x := at_) (by simp)
        refine ⟨v, by rw [← hlen]; simpa using hv, uv, ?_⟩
        have := paired_take hh late'.length
        rw [List.take_left] at this
        refine LsOf.up ?_
        rw [List.dropLast_eq_take, ← hlen, List.length_singleton, Nat.add_sub_cancel]
        exact this
      refine js_seq (js_setLc (i := 4) (own := [("flow", 5), ("spot", 6)]) (fun q : Nat × Rat => decide (0 < q.2) && !decide (q.1 ∈ met)) (fun q : Nat × Rat => q.1) rfl nd rfl rfl (sw_true rfl rfl rfl (by decide +kernel)) (ji_enumN (Rx := IsQ C) (xs := fl[at_]!) (pi_enum rfl Z.enum (ja_cons (je_op (pe_ix ix_list (jv 0 (R := IsQM C fl)) (jv 3 (R := IsU at_)) (fun _ _ => rfl)) (rop_ixB hal)) ja_nil))) (blkOk_by (by kernel_rfl)) (by decide) (fun s H C' cl fp x => jg2 6 5 nd) (fun s H C' cl fp x hx => jts_one (PW.pt (jw_and (jt_eq (jt_cmp (pt_cmpR op_gt (jprop psign hr x.2 (jv 5 (R := IsQ C x.2)) rfl trivial rfl) jI (nomark _)) rop_gt) (by rw [q_sgn_pos])) fun _ => jw_and1 (jt_eq (jt_view (i := 1) rfl (jt_cmp (pt_cmpR op_notIn_seq (jv 6 (R := IsU x.1)) (je_conv (jv 1) isU_lst) (by with_unfolding_all rfl)) rop_notIn)) ?_)))) (fun s H C' cl fp x hx _ => jv 6 (R := IsU x.1)) (line_of (m := 1000) ?_)) ?_
      · congr 1
        rw [decide_eq_decide, List.mem_map]
        constructor
        · rintro ⟨a, h1, h2⟩
          rw [← Int.ofNat.inj h2]
          exact h1
        · exact fun h => ⟨_, h, rfl⟩
      · rw [enumN_len, hrr _ (get_mem hal)]
        omega
      refine js_frz (i := 4) rfl ?_
      have e : ((enumN fl[at_]!).filter fun q : Nat × Rat => decide (0 < q.2) && !decide (q.1 ∈ met)).map (fun q : Nat × Rat => q.1) = moreR fl at_ met := rfl
      rw [e]
      generalize moreR fl at_ met = more at *
      refine js_seq (js_extend (i := 1) (Rx := IsU) (ys := more) (Rm' := LsOf IsU (met ++ more)) (ps_expr (pe_bm PySem.F.plainAttrs_list PySem.F.slot_list_extend PySem.F.type_list_extend mt_extend (pv 1) (pa_cons (jv 4) pa_nil))) rfl (fun vs ws F a b => LsOf.up (paired_app a.here b)) (fun vs F a => ?_)) ?_
      · rw [← a.len]
        have h6 : (100000 : Nat) ≤ sizeLine := by decide
        omega
      refine js_one (js_N (js_extend (i := 2) (Rx := IsU) (ys := more) (Rm' := LsOf IsU (late' ++ more)) (ps_expr (pe_bm PySem.F.plainAttrs_list PySem.F.slot_list_extend PySem.F.type_list_extend mt_extend (pv 2) (pa_cons (jv 4) pa_nil))) rfl (fun vs ws F a b => LsOf.up (paired_app a.here b)) (fun vs F a => ?_)) ?_)
      · rw [← a.len]
        have h6 : (100000 : Nat) ≤ sizeLine := by decide
        omega
      · rintro G' rfl
        refine ⟨2 * (fl.length - (met ++ more).length) + (late' ++ more).length, ?_, met ++ more, late' ++ more, _, _, rfl, ?_, hJ2, rfl⟩
        · rw [List.length_append, List.length_append, hm, List.length_append, List.length_singleton]
          omega
        · have := hJ2.late_le
          omega
    · have he : late = [] := by
        cases late with
        | nil => rfl
        | cons x l => exact absurd hb (by simp)
      subst he
      exact ⟨met, s3, s4, hJ, rfl⟩
  · rintro _ ⟨met, s3, s4, hJ, rfl⟩
    have hf := hJ.full hc
    refine js_one (js_ret (je_eq (je_view (i := 1) rfl (fun v F F' h => h) (je_op (pe_cmpR op_eq (jbB call_len Z.len boot_len (ja_cons (jv 1 (R := IsL IsU met)) ja_nil) rc_len) (jbB call_len Z.len boot_len (ja_cons (jv 0 (R := IsQM C fl)) ja_nil) rc_len) (nomark _)) rop_eqI)) ?_))
    rw [hf]
    simp
end
end Gw
set_option maxHeartbeats 4000000
/-! A list of lists of this def's own whose inner lists turn. -/
namespace Gw
open PySem PySem.Spec PyProof.Rows L2
theorem paired_of_get {α β : Type} {P : α → β → Prop} : ∀ {xs : List α} {ys : List β}, xs.length = ys.length → (∀ (i : Nat) (x : α) (y : β), xs[i]? = some x → ys[i]? = some y → P x y) → Paired P xs ys
  | [], [], _, _ => .nil
  | [], y :: ys, h, _ => by simp at h
  | x :: xs, [], h, _ => by simp at h
  | x :: xs, y :: ys, h, k => .cons (k 0 x y rfl rfl) (paired_of_get (by simpa using h) fun i a b ha hb => k (i + 1) a b (by simpa using ha) (by simpa using hb))
theorem gw_ixN {n j : Nat} (hj : j < n) : ixN n (j : Int) = some j := by
  unfold ixN
  rw [if_pos (by omega), if_pos (by omega)]
  simp
section
variable {X : Cx} {E : En} {G : List Sl} {α β : Type} {R : α → V → Hp → Prop} {e : Expr} {st : Stmt} {rest body : List Stmt} {pos : Pos}
/-- new lists in a new list -/
def tLM (E : En) (G : List Sl) (R : α → V → Hp → Prop) (l0 : List α) (n : Nat) : TE := fun σ H Q => ∃ F, Sat E G σ F H ∧ ∀ (p : Addr) (qs : List Addr) (F' H' : Hp), Gr E.pp F H F' H' → H p = none → F' p = none → H' p = some (.lst (qs.map V.ref)) → qs.length = n → qs.Nodup → p ∉ qs →
  (∀ q ∈ qs, H q = none ∧ F' q = none ∧ ∃ us, H' q = some (.lst us) ∧ LsOf R l0 us F') → Q (.ref p) H'
theorem lc_readM {Rx : β → V → Hp → Prop} {xs : List β} {own : List (Str × Nat)} {idx : List Nat} {f : β → List Sl → List Sl} (l0 : List α) (hidx : ∀ k ∈ idx, k ∈ own.map (·.2)) (hz : xs.length < sizeLine) {σ : L2.St} {H : Hp} {Q : VK}
    (hw : tLM E G R l0 xs.length σ H Q) : tLc (tI E G Rx xs) (fun v σ H Q => ∃ x, tG E (Rx x) idx (f x) v σ H Q) (fun σ H Q => ∃ q : { x // x ∈ xs }, tT E (f q.1 (wipeG G (own.map (·.2)))) true σ H Q)
      (fun σ H Q => ∃ q : { x // x ∈ xs }, tM E (f q.1 (wipeG G (own.map (·.2)))) (LsOf R l0) σ H Q) (own.map (·.2)) σ H Q := by
  obtain ⟨F, S, k⟩ := hw
  refine ⟨F, S, fun J F1 H1 g1 src D hD => ?_⟩
  have hD0 : H D = none := g1.back hD
  have hpD : E.pp ≠ some D := fun z => by
    obtain ⟨_, x, y, h2, _⟩ := S.ok.p D z
    rw [hD0] at h2
    cases h2
  refine ⟨fun i m H2 => m = xs.length - i ∧ i ≤ xs.length ∧ ∃ (F2 : Hp) (qs : List Addr), Gr E.pp F H F2 H2 ∧ Ex F1 F2 ∧ F2 D = none ∧ H2 D = some (.lst (qs.map V.ref)) ∧ qs.length = i ∧ qs.Nodup ∧ D ∉ qs ∧ (∀ q ∈ qs, H q = none ∧ F2 q = none ∧ ∃ us, H2 q = some (.lst us) ∧ LsOf R l0 us F2),
    ⟨xs.length, rfl, Nat.zero_le _, F1, [], g1.trans (Gr.raw g1.ok hD), Ex.refl _, g1.s.back hD, upd_same, rfl, .nil, by simp, fun q hq => by simp at hq⟩, ?_⟩
  rintro i m H2 ⟨rfl, hi', F2, qs, g2, e2, n2, d2, l2, nd2, dq2, u2⟩
  have S2 := S.gr g2
  have npq : ∀ q ∈ qs, E.pp ≠ some q := fun q hq z => by
    obtain ⟨_, x, y, h2, _⟩ := S.ok.p q z
    rw [(u2 q hq).1] at h2
    cases h2
  by_cases hlt : i < xs.length
  · have hx : xs[i]? = some xs[i] := List.getElem?_eq_getElem hlt
    have hm : xs[i] ∈ xs := List.getElem_mem hlt
    refine .inr ⟨src.go i F2 H2 hlt e2 S2.ok.s, fun H3 => ∃ (F3 : Hp) (qs' : List Addr), Gr E.pp F H F3 H3 ∧ Ex F1 F3 ∧ F3 D = none ∧ H3 D = some (.lst (qs'.map V.ref)) ∧ qs'.length = i + 1 ∧ qs'.Nodup ∧ D ∉ qs' ∧ (∀ q ∈ qs', H q = none ∧ F3 q = none ∧ ∃ us, H3 q = some (.lst us) ∧ LsOf R l0 us F3),
      fun H3 q => ⟨xs.length - (i + 1), by omega, rfl, hlt, q⟩, fun v H3 y => ?_⟩
    obtain ⟨F3, g3, u3⟩ := src.yld i _ F2 H2 v H3 hx e2 S2.ok y
    have keep : ∀ {F' H' F'' H'' : Hp} {a : Addr}, E.pp ≠ some a → Gr E.pp F' H' F'' H'' → F' a = none → ∀ {o : HO}, H' a = some o → F'' a = none ∧ H'' a = some o := fun {F' H' F'' H'' a} hp gg hn {o} ho => by
      refine ⟨?_, gg.k a o ho hp⟩
      cases z : F'' a with
      | none => rfl
      | some w =>
        rcases gg.n a w z with q | q
        · rw [hn] at q; cases q
        · rw [ho] at q; cases q
    refine ⟨xs[i], wipeG G (own.map (·.2)), F3, (S2.gr g3).wipe _, u3, fun σ4 hw S4 => ⟨?_, ⟨xs[i], hm⟩, F3, S4, fun F4 H4 g4 => ?_⟩⟩
    · rw [hw _ hidx, wipe_idem fun _ h => h]
    · show ∃ q : { x // x ∈ xs }, tM E (f q.1 (wipeG G (own.map (·.2)))) (LsOf R l0) σ4 H4 _
      refine ⟨⟨xs[i], hm⟩, F4, S4.gr g4, fun q us F5 H5 g5 m1 m2 m3 u5 => ?_⟩
      have g35 := (g3.trans g4).trans g5
      obtain ⟨n5, d5⟩ := keep hpD g35 n2 d2
      have gg := g2.trans g35
      have hq0 : H q = none := g2.back (g3.back (g4.back m1))
      have hqD : q ≠ D := fun z => by
        obtain ⟨_, dd⟩ := keep hpD (g3.trans g4) n2 d2
        rw [z, dd] at m1
        cases m1
      have hqq : q ∉ qs := fun z => by
        obtain ⟨_, b2, us', b3, _⟩ := u2 q z
        obtain ⟨_, dd⟩ := keep (npq q z) (g3.trans g4) b2 b3
        rw [dd] at m1
        cases m1
      have hi2 : i < sizeLine := by omega
      refine ⟨qs.map V.ref, d5, by rw [List.length_map, l2]; exact hi2, F5, qs ++ [q], ?_, ((e2.trans g3.f).trans g4.f).trans g5.f, n5, by rw [upd_same, List.map_append]; rfl, by rw [List.length_append, l2]; rfl, ?_, ?_, ?_⟩
      · exact {
          f := gg.f
          s := fun a o z => by
            have ne : a ≠ D := fun w => by rw [w, n5] at z; cases z
            rw [upd_ne ne]
            exact gg.s a o z
          k := fun a o z hp => by
            have ne : a ≠ D := fun w => by rw [w, hD0] at z; cases z
            rw [upd_ne ne]
            exact gg.k a o z hp
          n := gg.n
          p := fun a ha => by
            obtain ⟨q1, x, y, q2, q3⟩ := gg.p a ha
            have ne : a ≠ D := fun w => hpD (by rw [← w]; exact ha)
            exact ⟨q1, x, y, by rw [upd_ne ne]; exact q2, q3⟩ }
      · rw [List.nodup_append]
        refine ⟨nd2, by simp, fun a h1 b h2 z => ?_⟩
        have : b = q := by simpa using h2
        subst z
        rw [this] at h1
        exact hqq h1
      · intro h
        rcases List.mem_append.mp h with z | z
        · exact dq2 z
        · exact hqD (by have : D = q := by simpa using z
                        exact this.symm)
      · intro a h
        rcases List.mem_append.mp h with z | z
        · obtain ⟨b1, b2, us', b3, b4⟩ := u2 a z
          obtain ⟨c1, c2⟩ := keep (npq a z) g35 b2 b3
          have ne : a ≠ D := fun w => dq2 (by rw [← w]; exact z)
          exact ⟨b1, c1, us', by rw [upd_ne ne]; exact c2, b4.up F5 g35.f⟩
        · have : a = q := by simpa using z
          subst this
          exact ⟨hq0, m2, us, by rw [upd_ne hqD]; exact m3, u5.here⟩
  · have e : i = xs.length := by omega
    subst e
    exact .inl ⟨src.stop F2 H2 e2 S2.ok.s, k D qs F2 H2 g2 hD0 n2 d2 l2 nd2 dq2 u2⟩
/-- name = [elt for ..], elt a new list, the name a local -/
theorem js_lcM {Rx : β → V → Hp → Prop} {xs : List β} {tg iter elt : Expr} {scope : Scope} {idx : List Nat} {f : β → List Sl → List Sl} {i : Nat} {y : Str} {py spos : Pos} (l0 : List α) (own : List (Str × Nat)) (hN : X.N.Nodup) (hi : PI X tg iter (tI E G Rx xs))
    (hg : ∀ (s : Shared) (H : Hp) (C : Addr) (cl : List (Str × Addr)) (fp : List Addr) (x : β), PG (X.blk s H scope (compEnvC scope cl C X.env) fp) tg (tG E (Rx x) idx (f x)))
    (he : ∀ (s : Shared) (H : Hp) (C : Addr) (cl : List (Str × Addr)) (fp : List Addr) (x : β), x ∈ xs → PE (X.blk s H scope (compEnvC scope cl C X.env) fp) elt (tM E (f x (wipeG G (own.map (·.2)))) (LsOf R l0)))
    (hz : xs.length < sizeLine) (hy : X.N[i]? = some y := by exact rfl) (hyl : X.env.scope.names.lookup y = some .local := by exact rfl) (hsw : swapsWith (.ListComp elt [⟨tg, iter, [], 0⟩] scope pos) (some (.Name y py)) spos.line X.env = pure true := by exact sw_true rfl rfl rfl (by decide +kernel))
    (ok : blkC X.N X.env.scope scope own = true := by kernel_rfl) (hc : X.calm = true := by rfl) (hidx : ∀ k ∈ idx, k ∈ own.map (·.2) := by decide) (hs : ∀ x, foldedSetIterable iter X.env x = pure x := by intro _; rfl) :
    PS X (.Assign [.Name y py] (.ListComp elt [⟨tg, iter, [], 0⟩] scope pos) spos) (tAsg (tLM E G R l0 xs.length) (gName i)) := by
  have P := ps_setLc (i := i) hc hN hy hyl hsw hi (blkOk_by ok) (g := fun v σ H Q => ∃ x, tG E (Rx x) idx (f x) v σ H Q) (tt := fun σ H Q => ∃ q : { x // x ∈ xs }, tT E (f q.1 (wipeG G (own.map (·.2)))) true σ H Q)
    (te := fun σ H Q => ∃ q : { x // x ∈ xs }, tM E (f q.1 (wipeG G (own.map (·.2)))) (LsOf R l0) σ H Q)
    (fun s H C cl fp => ⟨fun pins s' σ H' v u Q I r ⟨x, h⟩ => (hg s H C cl fp x).run pins s' σ H' v u Q I r h⟩) (fun s H C cl fp => PTs_any fun q => jts_nil) (fun s H C cl fp => PE_any fun q => he s H C cl fp q.1 q.2) hs
  refine PS_imp P fun D σ H hw => ?_
  revert hw
  show tLM E G R l0 xs.length σ H (fun v H1 => gName i v σ H1 D.nx) → tLc _ _ _ _ _ σ H (fun v H1 => gName i v σ H1 D.nx)
  exact lc_readM l0 hidx hz
/-! ### states by the heap as it stands -/
def Zt (E : En) (G : List Sl) (M : Hp → Hp → Prop) (F0 : Hp) (σ : L2.St) (H : Hp) : Prop := ∃ F, Ex F0 F ∧ Sat ⟨F, H, none⟩ G σ F H ∧ Gr none E.F E.H F H ∧ M F H
def tz (E : En) (G : List Sl) (M : Hp → Hp → Prop) (N : Hp → L2.St → Hp → Prop) (Rt : V → Hp → Hp → Prop) : TS := fun D σ H => ∃ F0, Zt E G M F0 σ H ∧ (∀ σ' H', N F0 σ' H' → D.nx σ' H') ∧ (∀ v F' H', Gr none E.F E.H F' H' → Rt v F' H' → D.rt v H')
def Stb (M : Hp → Hp → Prop) : Prop := ∀ F H F' H', Gr none F H F' H' → M F H → M F' H'
variable {M : Hp → Hp → Prop} {N : Hp → L2.St → Hp → Prop} {Rt : V → Hp → Hp → Prop}
theorem PS_any {ι : Type} {t : ι → TS} (h : ∀ i, PS X st (t i)) : PS X st (fun D σ H => ∃ i, t i D σ H) := ⟨fun pins s σ H D I ⟨i, hw⟩ => (h i).run pins s σ H D I hw⟩
theorem PI_any {ι : Type} {tg : Expr} {t : ι → TI} (h : ∀ i, PI X tg e (t i)) : PI X tg e (fun σ H R => ∃ i, t i σ H R) := ⟨fun pins s σ H R I ⟨i, hw⟩ => (h i).run pins s σ H R I hw⟩
theorem PG_any {ι : Type} {t : ι → TG} (h : ∀ i, PG X e (t i)) : PG X e (fun v σ H Q => ∃ i, t i v σ H Q) := ⟨fun pins s σ H v u Q I r ⟨i, hw⟩ => (h i).run pins s σ H v u Q I r hw⟩
theorem jz_cons {ι : Type} (Gf : ι → List Sl) (Mf : ι → Hp → Hp → Prop) (p : PS X st (tz E G M (fun F0 σ H => ∃ i, Zt E (Gf i) (Mf i) F0 σ H) Rt)) (q : ∀ i, PSs X rest (tz E (Gf i) (Mf i) N Rt)) : PSs X (st :: rest) (tz E G M N Rt) :=
  PSs_imp (pss_cons p (PSs_any q)) fun D σ H ⟨F0, z, kn, kr⟩ => ⟨F0, z, fun σ' H' ⟨i, zi⟩ => ⟨i, F0, zi, kn, kr⟩, kr⟩
theorem jz_one (p : PS X st (tz E G M N Rt)) : PSs X [st] (tz E G M N Rt) := pss_one p
theorem jz_N {N' : Hp → L2.St → Hp → Prop} (p : PS X st (tz E G M N Rt)) (h : ∀ F0 σ H, N F0 σ H → N' F0 σ H) : PS X st (tz E G M N' Rt) := PS_imp p fun D σ H ⟨F0, z, kn, kr⟩ => ⟨F0, z, fun σ' H' n => kn σ' H' (h F0 σ' H' n), kr⟩
/-- a statement that leaves the inner lists alone -/
theorem jz_lift {G1 : List Sl} (hM : Stb M) (h1 : Plain G1) (p : ∀ E' : En, E'.pp = none → PS X st (tS E' G (fun _ _ _ => False) (· = G1))) : PS X st (tz E G M (fun F0 σ H => Zt E G1 M F0 σ H) Rt) :=
  PS_imp (PS_any (ι := { E' : En // E'.pp = none }) fun E' => p E'.1 E'.2) fun D σ H ⟨F0, ⟨F, e0, S, g, m⟩, kn, kr⟩ => ⟨⟨⟨F, H, none⟩, rfl⟩, F, S, fun G' σ' F' H' n S' e => by
    subst n
    have gg : Gr none F H F' H' := S'.bs
    exact kn σ' H' ⟨F', e0.trans e, S'.reE h1 S'.bs.s, g.trans gg, hM _ _ _ _ gg m⟩, fun _ _ _ _ z => z.elim⟩
theorem jz_for {Rx : β → V → Hp → Prop} {xs : List β} {tg iter : Expr} {idx : List Nat} {f : β → List Sl → List Sl} (hp : PassesOwn (model X.prog X.w) X.A X.env X.xe) (hc : X.calm = true)
    (hi : ∀ E' : En, E'.pp = none → PI X tg iter (tI E' G Rx xs)) (hg : ∀ (E' : En) x, PG X tg (tG E' (Rx x) idx (f x))) (Gp : Nat → List Sl → Prop) (hpl : ∀ i G, Gp i G → Plain G) (hpf : ∀ x G, Plain G → Plain (f x G)) (Mf : Nat → Hp → Hp → Prop) (hM : ∀ i, Stb (Mf i)) (h0 : Gp 0 G)
    (hb : ∀ (i : Nat) (x : β) (G1 : List Sl), xs[i]? = some x → Gp i G1 → PSs X body (tz E (f x G1) (Mf i) (fun F0 σ H => ∃ G2, Gp (i + 1) G2 ∧ Zt E G2 (Mf (i + 1)) F0 σ H) Rt))
    (hs : ∀ x, foldedSetIterable iter X.env x = pure x := by intro _; rfl) : PS X (.For tg iter body [] pos) (tz E G (Mf 0) (fun F0 σ H => ∃ G2, Gp xs.length G2 ∧ Zt E G2 (Mf xs.length) F0 σ H) Rt) := by
  have pi := PI_any (X := X) (ι := { E' : En // E'.pp = none }) fun E' => hi E'.1 E'.2
  have pg := PG_any (X := X) (e := tg) (ι := En × β) (t := fun q => tG q.1 (Rx q.2) idx (f q.2)) fun q => hg q.1 q.2
  have pb := PSs_any (X := X) (st := body) (ι := { q : Nat × β × List Sl // xs[q.1]? = some q.2.1 ∧ Gp q.1 q.2.2 }) (t := fun q => tz E (f q.1.2.1 q.1.2.2) (Mf q.1.1) (fun F0 σ H => ∃ G2, Gp (q.1.1 + 1) G2 ∧ Zt E G2 (Mf (q.1.1 + 1)) F0 σ H) Rt) fun q => hb _ _ _ q.2.1 q.2.2
  refine PS_imp (ps_for hp hc pi pg pb hs) fun D σ H ⟨F0, ⟨F, e0, S, g, m⟩, kn, kr⟩ => ?_
  refine ⟨⟨⟨F, H, none⟩, rfl⟩, F, S, fun J F1 H1 g1 src => ?_⟩
  have g1 : Gr none F H F1 H1 := g1
  have src : Src none J F1 Rx xs := src
  refine ⟨fun i m σ2 H2 => m = xs.length - i ∧ i ≤ xs.length ∧ ∃ G2, Gp i G2 ∧ ∃ F2, Ex F1 F2 ∧ Sat ⟨F2, H2, none⟩ G2 σ2 F2 H2 ∧ Gr none E.F E.H F2 H2 ∧ Mf i F2 H2, ⟨xs.length, rfl, Nat.zero_le _, G, h0, F1, Ex.refl _, (S.gr g1).reE (hpl 0 G h0) g1.s, g.trans g1, hM 0 _ _ _ _ g1 m⟩, ?_⟩
  rintro i m σ2 H2 ⟨rfl, hi', G2, gp, F2, e2, S2, gE, m2⟩
  by_cases hlt : i < xs.length
  · have hx : xs[i]? = some xs[i] := List.getElem?_eq_getElem hlt
    refine .inr ⟨src.go i F2 H2 hlt e2 S2.ok.s, fun σ3 H3 => ∃ G3, Gp (i + 1) G3 ∧ ∃ F3, Ex F1 F3 ∧ Sat ⟨F3, H3, none⟩ G3 σ3 F3 H3 ∧ Gr none E.F E.H F3 H3 ∧ Mf (i + 1) F3 H3, fun σ3 H3 q => ⟨xs.length - (i + 1), by omega, rfl, hlt, q⟩, fun v H3 y => ?_⟩
    obtain ⟨F3, g3, u3⟩ := src.yld i _ F2 H2 v H3 hx e2 S2.ok y
    have g3 : Gr none F2 H2 F3 H3 := g3
    refine ⟨(⟨F3, H3, none⟩, xs[i]), G2, F3, (S2.gr g3).reE (hpl i G2 gp) g3.s, u3, fun σ4 _ S4 => ?_⟩
    refine ⟨⟨(i, xs[i], G2), hx, gp⟩, F1, ⟨F3, e2.trans g3.f, S4, gE.trans g3, hM i _ _ _ _ g3 m2⟩, fun σ5 H5 ⟨G5, gp5, F5, e5, S5, gE5, m5⟩ => ⟨G5, gp5, F5, e5, S5, gE5, m5⟩, kr⟩
  · have e : i = xs.length := by omega
    subst e
    exact .inl ⟨src.stop F2 H2 e2 S2.ok.s, kn σ2 H2 ⟨G2, gp, F2, (e0.trans g1.f).trans e2, S2, gE, m2⟩⟩
/-- the inner lists -/
def Mm (R : α → V → Hp → Prop) (E : En) (qs : List Addr) (lf : Nat → List α) (F H : Hp) : Prop := qs.Nodup ∧ ∀ (k : Nat) (q : Addr), qs[k]? = some q → E.H q = none ∧ F q = none ∧ ∃ us, H q = some (.lst us) ∧ LsOf R (lf k) us F
theorem mm_stb {qs : List Addr} {lf : Nat → List α} : Stb (Mm R E qs lf) := fun F H F' H' g ⟨nd, h⟩ => ⟨nd, fun k q hq => by
  obtain ⟨h1, h2, us, h3, h4⟩ := h k q hq
  refine ⟨h1, ?_, us, g.k q _ h3 (fun z => nomatch z), h4.up F' g.f⟩
  cases z : F' q with
  | none => rfl
  | some o =>
    rcases g.n q o z with w | w
    · rw [h2] at w; cases w
    · rw [h3] at w; cases w⟩
/-- ahead[head] = number -/
theorem jz_poke {i j hd : Nat} {q : Addr} {qs : List Addr} {lf : Nat → List α} {x : α} (hG : G[i]? = some (.fz (IsC (.ref q)))) (hPl : Plain G) (hq : qs[j]? = some q) (hl : hd < (lf j).length)
    (p : ∀ E' : En, E'.pp = none → PS X st (tAsg (tE E' G (R x)) (gSub (tVar i) (tE E' G (IsU hd)) rSetL))) : PS X st (tz E G (Mm R E qs lf) (fun F0 σ H => Zt E G (Mm R E qs (fun k => if k = j then (lf j).set hd x else lf k)) F0 σ H) Rt) :=
  PS_imp (PS_any (ι := { E' : En // E'.pp = none }) fun E' => p E'.1 E'.2) fun D σ H ⟨F0, ⟨F, e0, S, g, m⟩, kn, kr⟩ => ⟨⟨⟨F, H, none⟩, rfl⟩, F, S, fun v F1 H1 g1 u1 => by
    have g1 : Gr none F H F1 H1 := g1
    obtain ⟨w, ew, uw⟩ := S.fz i _ hG
    have e1 : w = .ref q := uw.here
    subst e1
    refine ⟨.ref q, ew, F1, S.gr g1, fun w2 F2 H2 g2 u2 => ?_⟩
    have g2 : Gr none F1 H1 F2 H2 := g2
    have m2 := mm_stb _ _ _ _ (g1.trans g2) m
    have gE := (g.trans g1).trans g2
    have S2 := (S.gr g1).gr g2
    obtain ⟨nd, hm⟩ := m2
    obtain ⟨h1, h2, us, h3, h4⟩ := hm j q hq
    have hlen := h4.len
    refine ⟨q, us, (hd : Int), hd, rfl, u2.here, h3, ?_, ?_⟩
    · show ixN us.length (hd : Int) = some hd
      exact gw_ixN (by omega)
    · have hx : Ex F2 (upd H2 q (.lst (us.set hd v))) := fun a o z => by
        have ne : a ≠ q := fun w => by rw [w, h2] at z; cases z
        rw [upd_ne ne]
        exact gE.s a o z
      refine kn σ _ ⟨F2, (e0.trans g1.f).trans g2.f, S2.reE hPl hx, ?_, nd, fun k q' hk => ?_⟩
      · exact {
          f := gE.f
          s := hx
          k := fun a o z hp => by
            have ne : a ≠ q := fun w => by rw [w, h1] at z; cases z
            rw [upd_ne ne]
            exact gE.k a o z hp
          n := gE.n
          p := fun _ z => nomatch z }
      · obtain ⟨a1, a2, us', a3, a4⟩ := hm k q' hk
        by_cases z : k = j
        · subst z
          rw [hq] at hk
          cases hk
          refine ⟨h1, h2, us.set hd v, upd_same, ?_⟩
          show LsOf R (if k = k then (lf k).set hd x else lf k) _ F2
          rw [if_pos rfl]
          exact paired_set h4 (u1.mono g2.f) hd
        · have ne : q' ≠ q := fun w => z (by
            subst w
            exact (List.getElem?_inj (List.getElem?_eq_some_iff.mp hk).1 nd).mp (hk.trans hq.symm))
          refine ⟨a1, a2, us', by rw [upd_ne ne]; exact a3, ?_⟩
          show LsOf R (if k = j then (lf j).set hd x else lf k) _ F2
          rw [if_neg z]
          exact a4⟩
/-- into such a state -/
theorem jz_enter {i n : Nat} {l0 : List α} {Nj : List Sl → Prop} (hE : E.pp = none) (hPl : Plain G) (p : PS X st (tAsg (tLM E G R l0 n) (gName i)))
    (q : ∀ qs : List Addr, qs.length = n → PSs X rest (tz E (G.set i (.fz (IsL (fun a => IsC (.ref a)) qs))) (Mm R E qs (fun _ => l0)) (fun _ _ _ => False) Rt)) : PSs X (st :: rest) (tS E G Rt Nj) :=
  PSs_imp (pss_cons p (PSs_any (ι := { qs : List Addr // qs.length = n }) fun qs => q qs.1 qs.2)) fun D σ H ⟨F, S, kn, kr⟩ => ⟨F, S, fun p qs F' H' g n1 n2 n3 l nd pq u => by
    have g' : Gr E.pp F H (upd F' p (.lst (qs.map V.ref))) H' := Gr_frz S.ok g n1 n2 n3
    have S' := S.gr g'
    have uL : Up (IsL (fun a => IsC (.ref a)) qs) (.ref p) (upd F' p (.lst (qs.map V.ref))) := LstOf.up ⟨p, _, rfl, upd_same, LsOf.up (paired_of_get (by simp) fun k a v h1 h2 => by
      rw [List.getElem?_map, h1] at h2
      cases h2
      exact fun _ _ => rfl)⟩
    have S2 := S'.set_fz (i := i) uL
    have hP2 : Plain (G.set i (.fz (IsL (fun a => IsC (.ref a)) qs))) := fun k s hk => by
      by_cases z : k = i
      · subst z
        rw [List.getElem?_set_self (by have := (List.getElem?_eq_some_iff.mp hk).1; simpa using this)] at hk
        cases hk
        exact .inr ⟨_, rfl⟩
      · rw [List.getElem?_set_ne (Ne.symm z)] at hk
        exact hPl k s hk
    have gE : Gr none E.F E.H (upd F' p (.lst (qs.map V.ref))) H' := by
      have := S2.bs
      unfold Bs at this
      rwa [hE] at this
    refine ⟨⟨qs, l⟩, upd F' p (.lst (qs.map V.ref)), ⟨_, Ex.refl _, S2.reE hP2 gE.s, gE, nd, fun k q hq => ?_⟩, fun _ _ z => z.elim, fun v F2 H2 gg r => kr v F2 H2 (by
      show Gr E.pp E.F E.H F2 H2
      rw [hE]
      exact gg) r⟩
    obtain ⟨b1, b2, us, b3, b4⟩ := u q (List.mem_of_getElem? hq)
    have ne : q ≠ p := fun w => pq (by rw [← w]; exact List.mem_of_getElem? hq)
    exact ⟨S.bs.back b1, by rw [upd_ne ne]; exact b2, us, b3, b4.up _ (Ex.new n2)⟩⟩
/-- return found -/
theorem jz_ret {i : Nat} {qs : List Addr} {lf : Nat → List α} (p : PE X e (tVar i)) (hG : G[i]? = some (.fz (IsL (fun a => IsC (.ref a)) qs))) : PS X (.Return (some e) pos) (tz E G (Mm R E qs lf) N (Rn (IsL (IsL R) ((List.range qs.length).map lf)))) :=
  PS_imp (ps_ret p) fun D σ H ⟨F0, ⟨F, e0, S, g, nd, m⟩, kn, kr⟩ => by
    obtain ⟨v, ev, uv⟩ := S.fz i _ hG
    obtain ⟨p, ws, rfl, hp, hw⟩ := uv.here
    have hws : ws = qs.map V.ref := by
      have all : ∀ {qs : List Addr} {ws : List V}, LsOf (fun a => IsC (.ref a)) qs ws F → ws = qs.map V.ref := by
        intro qs
        induction qs with
        | nil => intro ws h; cases h; rfl
        | cons q qs ih =>
          intro ws h
          cases h with
          | cons h1 h2 => rw [ih h2, show _ = V.ref q from h1.here]; rfl
      exact all hw.here
    subst hws
    have hF : ∀ q ∈ qs, F q = none := fun q hq => by
      obtain ⟨k, hk⟩ := List.getElem?_of_mem hq
      exact (m k q hk).2.1
    have ex : Ex F (fun a => if a ∈ qs then H a else F a) := fun a o z => by
      have ne : a ∉ qs := fun w => by rw [hF a w] at z; cases z
      show (if a ∈ qs then H a else F a) = some o
      rw [if_neg ne]
      exact z
    refine ⟨.ref p, ev, kr _ (fun a => if a ∈ qs then H a else F a) H ?_ ?_⟩
    · exact {
        f := g.f.trans ex
        s := fun a o z => by
          have z : (if a ∈ qs then H a else F a) = some o := z
          by_cases w : a ∈ qs
          · rwa [if_pos w] at z
          · rw [if_neg w] at z
            exact g.s a o z
        k := g.k
        n := fun a o z => by
          have z : (if a ∈ qs then H a else F a) = some o := z
          by_cases w : a ∈ qs
          · obtain ⟨k, hk⟩ := List.getElem?_of_mem w
            exact .inr (m k a hk).1
          · rw [if_neg w] at z
            exact g.n a o z
        p := fun _ z => nomatch z }
    · refine LstOf.up ⟨p, qs.map V.ref, rfl, ex _ _ hp, LsOf.up (paired_of_get (by simp) fun k l v h1 h2 => ?_)⟩
      rw [List.getElem?_map] at h1 h2
      cases e1 : qs[k]? with
      | none => rw [e1] at h2; cases h2
      | some q =>
        rw [e1] at h2
        have hk := (List.getElem?_eq_some_iff.mp e1).1
        rw [List.getElem?_range hk] at h1
        cases h1
        cases h2
        obtain ⟨a1, a2, us, a3, a4⟩ := m k q e1
        refine LstOf.up ⟨q, us, rfl, ?_, (a4.up _ ex |> LsOf.up)⟩
        show (if q ∈ qs then H q else F q) = _
        rw [if_pos (List.mem_of_getElem? e1)]
        exact a3
end
theorem le_set (G : List Sl) : ∀ i : Nat, Paired Le G (G.set i .un) := by
  induction G with
  | nil => intro i; exact .nil
  | cons s G ih =>
    intro i
    cases i with
    | zero => exact .cons .un (le_refl' G)
    | succ i => exact .cons (Le.rfl' s) (ih i)
where le_refl' : ∀ G : List Sl, Paired Le G G
  | [] => .nil
  | s :: G => .cons (Le.rfl' s) (le_refl' G)
theorem Le.trans' {a b c : Sl} (h : Le a b) (k : Le b c) : Le a c := by
  cases k with
  | un => exact .un
  | fz k => cases h with
    | fz h => exact .fz fun v F q => k v F (h v F q)
  | mt k => cases h with
    | mt h => exact .mt fun v F q => k v F (h v F q)
  | pot => exact h
theorem le_pair_trans : ∀ {A B D : List Sl}, Paired Le A B → Paired Le B D → Paired Le A D
  | _, _, _, .nil, .nil => .nil
  | _, _, _, .cons r t, .cons r' t' => .cons (r.trans' r') (le_pair_trans t t')
theorem le_wipe (G : List Sl) : ∀ vs : List Nat, Paired Le G (wipeG G vs)
  | [] => le_set.le_refl' G
  | v :: vs => le_pair_trans (le_wipe G vs) (le_set _ v)
theorem Zt.wipe {E : En} {G : List Sl} {M : Hp → Hp → Prop} {F0 : Hp} {σ : L2.St} {H : Hp} (z : Zt E G M F0 σ H) (vs : List Nat) : Zt E (wipeG G vs) M F0 σ H := let ⟨F, e, S, g, m⟩ := z; ⟨F, e, S.weakL (le_wipe G vs), g, m⟩
theorem Zt.imp {E : En} {G : List Sl} {M M' : Hp → Hp → Prop} {F0 : Hp} {σ : L2.St} {H : Hp} (z : Zt E G M F0 σ H) (h : ∀ F H, M F H → M' F H) : Zt E G M' F0 σ H := let ⟨F, e, S, g, m⟩ := z; ⟨F, e, S, g, h _ _ m⟩
theorem Mm.congr {α : Type} {R : α → V → Hp → Prop} {E : En} {qs : List Addr} {lf lf' : Nat → List α} {F H : Hp} (m : Mm R E qs lf F H) (h : ∀ k, k < qs.length → lf k = lf' k) : Mm R E qs lf' F H := ⟨m.1, fun k q hq => by
  rw [← h k (List.getElem?_eq_some_iff.mp hq).1]
  exact m.2 k q hq⟩
def plS (s : Sl) : Prop := s = .un ∨ ∃ R, s = .fz R
theorem plain_of {G : List Sl} (h : ∀ s ∈ G, plS s) : Plain G := fun i s hs => h s (List.mem_of_getElem? hs)
theorem plain_nil : ∀ s ∈ ([] : List Sl), plS s := fun s h => by simp at h
theorem plain_fz {R : V → Hp → Prop} {G : List Sl} (h : ∀ s ∈ G, plS s) : ∀ s ∈ Sl.fz R :: G, plS s := fun s hs => by
  rcases List.mem_cons.mp hs with e | e
  · exact .inr ⟨R, e⟩
  · exact h s e
theorem plain_un {G : List Sl} (h : ∀ s ∈ G, plS s) : ∀ s ∈ Sl.un :: G, plS s := fun s hs => by
  rcases List.mem_cons.mp hs with e | e
  · exact .inl e
  · exact h s e
theorem jz_M {X : Cx} {E : En} {G : List Sl} {st : Stmt} {M M' : Hp → Hp → Prop} {N : Hp → L2.St → Hp → Prop} {Rt : V → Hp → Hp → Prop} (p : PS X st (tz E G M' N Rt)) (h : ∀ F H, M F H → M' F H) : PS X st (tz E G M N Rt) := PS_imp p fun D σ H ⟨F0, z, kn, kr⟩ => ⟨F0, z.imp h, kn, kr⟩
theorem plain_s {s : Sl} {G : List Sl} (h0 : plS s) (h : ∀ s ∈ G, plS s) : ∀ t ∈ s :: G, plS t := fun t ht => by
  rcases List.mem_cons.mp ht with e | e
  · rw [e]; exact h0
  · exact h t e
theorem plain_set {G : List Sl} {i : Nat} {R : V → Hp → Prop} (h : Plain G) : Plain (G.set i (.fz R)) := fun k s hs => by
  by_cases q : k = i
  · subst q
    rw [List.getElem?_set_self (by have := (List.getElem?_eq_some_iff.mp hs).1; simpa using this)] at hs
    cases hs
    exact .inr ⟨_, rfl⟩
  · rw [List.getElem?_set_ne (Ne.symm q)] at hs
    exact h k s hs
end Gw
set_option maxHeartbeats 4000000
namespace Gw
open PySem PySem.Spec PyProof.Rows L2
section
variable {P : Program} {w : World} {K : PySem.W.Frag} {mg : Str → Option Value} {base : Heap} {C : Addr}
structure AhP (flows goals : List (List Rat)) : Prop where
  n : flows.length ≤ 100
  rr : ∀ r ∈ flows, r.length = flows.length
  fl : ∀ r ∈ flows, FitsL 0 r
  f1 : ∀ r ∈ flows, ∀ x ∈ r, Fits 0 x
  gl : goals.length ≤ 100
  gr : ∀ g ∈ goals, g.length = flows.length
  sol : SolP (lapRows flows goals)
  sr : ∀ row ∈ steps_ofR (lapRows flows goals), row.length = flows.length + goals.length ∧ headQ row < flows.length
  sl : (steps_ofR (lapRows flows goals)).length ≤ 1000
theorem lapRows_enum (flows goals : List (List Rat)) : lapRows flows goals = (enumN flows).map fun p => lapRow p.2 p.1 goals := by
  unfold lapRows enumN
  rw [List.map_map]
  rfl
theorem foldl_set_len {rs : List (List Rat)} {n k : Nat} : ∀ {l : List Rat}, (rs.foldl (fun l row => l.set (headQ row) (row[n + k]!)) l).length = l.length := by
  induction rs with
  | nil => intro l; rfl
  | cons r rs ih => intro l; rw [List.foldl_cons, ih, List.length_set]
abbrev sp_worths_ahead (C : Addr) : Sp := Pr (ι := List (List Rat) × List (List Rat)) (fun w => [IsQM C w.1, IsQM C w.2]) (fun w => AhP w.1 w.2) (fun w => IsQM C (aheadsR w.1 w.2))
abbrev Kn_worths_ahead (P : Program) (w : World) (K : PySem.W.Frag) (mg : Str → Option Value) (base : Heap) (C : Addr) : Prop := Kn P w K mg base "worths_ahead" 8 ["flows", "goals"] (sp_worths_ahead C)
theorem ok_worths_ahead (Z : Glo K mg C) (mk : Mkr P w K mg base C 2) (osub : Opr P w K mg base C .Sub 6 (fun w => Fits w.1 w.2) (· - ·)) (k_total_of : Kn_total_of P w K mg base C) (k_steps_of : Kn_steps_of P w K mg base C) (k_head_of : Kn_head_of P w K mg base C) (ptop : PropK P w K mg base C "top" 1 (sp_Rtop C)) {f : Addr} {fd : FuncData} (Fd : FnP K "worths_ahead" st_worths_ahead f fd) : FnOk P w K mg base CX0 8 f fd ["flows", "goals"] (sp_worths_ahead C) := by
  refine fn_pr Fd sc_worths_ahead (fun u => by first | rfl | (cases u <;> rfl)) (fun _ => False) (fun _ _ h => h.elim) (fun X u E hX hp hE => ?_)
  obtain ⟨cdv, A, outer, s, H, E', rfl, hr⟩ := hX
  refine PSs.nox ?_
  have nd := (sc_worths_ahead).nd
  replace hr : Room 7 (cxOf CX0 P w K mg base N_worths_ahead "worths_ahead" (defScope st_worths_ahead) f cdv A outer s H E').nox.A := hr
  obtain ⟨fl, gs⟩ := u
  have hp : AhP fl gs := hp
  have hn := hp.n
  have hg := hp.gl
  refine js_seq (js_asgFM (i := 2) (j := 3) (Ra := IsU fl.length) (Rm := LsOf (IsL (IsQ C)) []) (by decide) (ps_asg (pe_tup (pa_cons (jbB call_len Z.len boot_len (ja_cons (jv 0 (R := IsQM C fl)) ja_nil) rc_len) (pa_cons (jm_ls [] (jm_lst (pe_lst ja_nil))) pa_nil))) (pg_tup rfl (pgs_cons (gN 2 nd) (pgs_cons (gN 3 nd) pgs_nil))))) ?_
  refine js_seq (G1 := [.fz (IsQM C fl), .fz (IsQM C gs), .fz (IsU fl.length), .mt (LsOf (IsL (IsQ C)) ((enumN fl).map fun p => lapRow p.2 p.1 gs)), .un, .un, .un, .un, .un, .un, .un, .un, .un]) (js_for PassesOwn.never rfl (ji_enumN (Rx := IsL (IsQ C)) (xs := fl) (pi_enum rfl Z.enum (ja_cons (jv 0) ja_nil))) (fun x => jg2 4 5 nd)
    (fun i G => G = [.fz (IsQM C fl), .fz (IsQM C gs), .fz (IsU fl.length), .mt (LsOf (IsL (IsQ C)) (((enumN fl).take i).map fun p => lapRow p.2 p.1 gs)), .un, .un, .un, .un, .un, .un, .un, .un, .un]) rfl ?_ (fun G1 h => by rwa [List.take_length] at h)) ?_
  · rintro i ⟨n, r⟩ G1 hi rfl
    obtain ⟨e1, e2⟩ := enumN_get hi
    have e1 : n = i := e1
    have e2 : fl[i]? = some r := e2
    have hm := List.mem_of_getElem? e2
    have hil := (List.getElem?_eq_some_iff.mp e2).1
    have hrl := hp.rr r hm
    have hnl : n < fl.length := by omega
    refine js_seq (jslc (i := 6) (Ry := IsQ C) (fun one => 0 - one) [("one", 12)] nd (ji_list (Rx := IsQ C) (xs := r) (pi_list (jv 5))) (fun s H C' cl fp x => jg1 12 nd) (fun s H C' cl fp x hx => joQ osub (hr.mono (by decide)) (jmk1 mk (hr.mono (by decide)) (ja_cons jI ja_nil)) (jv 12) (hp.f1 r hm x hx)) (line_of (m := 1000) (by omega))) ?_
    refine js_seq (js_setitem (i := 6) (k := (n : Int)) (j := n) (R := IsQ C (sumR r)) (Rm' := LsOf (IsQ C) ((r.map fun one => 0 - one).set n (sumR r))) (ti := fun _ _ _ => True) (ps_asg (jc k_total_of (hr.mono (by decide)) r (ja_cons (jv 5) ja_nil) (hp.fl r hm)) (pg_sub (pv 6) (jv 4 (R := IsU n)) set_list)) rfl (fun vs F a => gw_ixN ?_) (fun vs v F a b => LsOf.up (paired_set a.here b n))) ?_
    · rw [← a.len, List.length_map]
      omega
    refine js_frz (i := 6) rfl ?_
    refine js_seq (js_append (i := 3) (R := IsL (IsQ C) (lapRow r n gs)) (Rm' := LsOf (IsL (IsQ C)) (((enumN fl).take (i + 1)).map fun p => lapRow p.2 p.1 gs)) (ps_expr (pe_bm PySem.F.plainAttrs_list PySem.F.slot_list_append PySem.F.type_list_append mt_append (pv 3) (pa_cons (je_m (jm_op (pe_op op_cat (jv 6) (je_m (jlc (Ry := IsQ C) (fun g : List Rat => g[n]!) [("goal", 11)] nd (ji_list (Rx := IsL (IsQ C)) (xs := gs) (pi_list (jv 1))) (fun s H C' cl fp x => jg1 11 nd) (fun s H C' cl fp x hx => je_op (pe_ix ix_list (jv 11 (R := IsL (IsQ C) x)) (jv 4 (R := IsU n)) (fun _ _ => rfl)) (rop_ixB (by rw [hp.gr x hx]; exact hnl))) (line_of (m := 1000) (by omega))))) (rop_cat ?_))) pa_nil))) rfl (fun vs v F a b => ?_) (fun vs F a => ?_)) ?_
    · rw [List.length_set, List.length_map, List.length_map]
      omega
    · rw [map_take hi]
      exact (a.here.snoc b).up
    · rw [← a.len, List.length_map, List.length_take, enumN_len]
      exact line_of (m := 1000) (by omega)
    · exact js_weak (le_wipe _ [4, 5, 6]) (js_nil rfl)
  rw [← lapRows_enum]
  refine js_frz (i := 3) rfl ?_
  refine jz_enter (R := IsQ C) (n := gs.length) (l0 := List.replicate fl.length (0 : Rat)) (i := 7) hE (plain_of (by repeat (first | exact plain_nil | refine plain_fz ?_ | refine plain_un ?_))) (js_lcM (List.replicate fl.length (0 : Rat)) [("goal", 11)] nd (ji_list (Rx := IsL (IsQ C)) (xs := gs) (pi_list (jv 1))) (fun s H C' cl fp x => jg1 11 nd) (fun s H C' cl fp x hx => ?_) (line_of (m := 1000) (by omega))) (fun qs hqs => ?_)
  · refine jm_conv (jm_op (pe_op op_rep (je_m (jm_ls [(0 : Rat)] (jm_lst (pe_lst (ja_cons (je_eq (jmk1 mk (hr.mono (by decide)) (ja_cons jI ja_nil)) rfl) ja_nil))))) (jv 2 (R := IsU fl.length))) (rop_rep (n := fl.length) ?_ ?_)) (fun v F q => ?_)
    · show 1 * fl.length ≤ 100000
      omega
    · omega
    · have e : (List.replicate fl.length [(0 : Rat)]).flatten = List.replicate fl.length 0 := by
        generalize fl.length = n
        induction n with
        | zero => rfl
        | succ n ih => rw [List.replicate_succ, List.flatten_cons, ih]; rfl
      rw [← e]
      exact q
  have hsol := hp.sol
  have hsr := hp.sr
  have hsl := hp.sl
  have hah : aheadsR fl gs = (List.range qs.length).map fun k => (steps_ofR (lapRows fl gs)).foldl (fun l row => l.set (headQ row) (row[fl.length + k]!)) (List.replicate fl.length 0) := by
    rw [hqs]
    rfl
  show PSs _ _ (tz E _ _ _ (Rn (IsQM C (aheadsR fl gs))))
  rw [hah]
  have pB : Plain [.fz (IsQM C fl), .fz (IsQM C gs), .fz (IsU fl.length), .fz (IsQM C (lapRows fl gs)), .un, .un, .un, .fz (IsL (fun a => IsC (.ref a)) qs), .un, .un, .un, .un, .un] := plain_of (by repeat (first | exact plain_nil | refine plain_fz ?_ | refine plain_un ?_))
  refine jz_cons (ι := Unit) (fun _ => [.fz (IsQM C fl), .fz (IsQM C gs), .fz (IsU fl.length), .fz (IsQM C (lapRows fl gs)), .un, .un, .un, .fz (IsL (fun a => IsC (.ref a)) qs), .un, .un, .un, .un, .un]) (fun _ => Mm (IsQ C) E qs (fun k => (steps_ofR (lapRows fl gs)).foldl (fun l row => l.set (headQ row) (row[fl.length + k]!)) (List.replicate fl.length 0))) (jz_N (jz_for (Rx := IsL (IsQ C)) (xs := steps_ofR (lapRows fl gs)) PassesOwn.never rfl (fun E' _ => ji_list (pi_list (jc k_steps_of (hr.mono (by decide)) (lapRows fl gs) (ja_cons (jv 3) ja_nil) hsol))) (fun E' x => jg1 6 nd) (fun _ G => G = [.fz (IsQM C fl), .fz (IsQM C gs), .fz (IsU fl.length), .fz (IsQM C (lapRows fl gs)), .un, .un, .un, .fz (IsL (fun a => IsC (.ref a)) qs), .un, .un, .un, .un, .un]) (fun i G h => by rw [h]; exact pB) (fun x G h k s hs => ?_) (fun i => Mm (IsQ C) E qs (fun k => ((steps_ofR (lapRows fl gs)).take i).foldl (fun l row => l.set (headQ row) (row[fl.length + k]!)) (List.replicate fl.length 0))) (fun i => mm_stb) rfl ?_) (fun F0 σ H ⟨G2, e, z⟩ => ⟨(), by
      rw [e, List.take_length] at z
      exact z⟩)) (fun _ => ?_)
  · by_cases q : k = 6
    · subst q
      rw [List.getElem?_set_self (by have := (List.getElem?_eq_some_iff.mp hs).1; simpa using this)] at hs
      cases hs
      exact .inr ⟨_, rfl⟩
    · rw [List.getElem?_set_ne (Ne.symm q)] at hs
      exact h k s hs
  · rintro i row G1 hi rfl
    have hrm := List.mem_of_getElem? hi
    obtain ⟨hlen, hhd⟩ := hsr row hrm
    have pB1 : Plain [.fz (IsQM C fl), .fz (IsQM C gs), .fz (IsU fl.length), .fz (IsQM C (lapRows fl gs)), .un, .un, .fz (IsL (IsQ C) row), .fz (IsL (fun a => IsC (.ref a)) qs), .un, .fz (IsU (headQ row)), .un, .un, .un] := plain_of (by repeat (first | exact plain_nil | refine plain_fz ?_ | refine plain_un ?_))
    have hho : headOf (row.map fun q => q.num) < (row.map fun q => q.num).length := by
      rw [List.length_map]
      have h : headOf (row.map fun q => q.num) < fl.length := hhd
      omega
    generalize hlf : (fun k => ((steps_ofR (lapRows fl gs)).take i).foldl (fun l row => l.set (headQ row) (row[fl.length + k]!)) (List.replicate fl.length (0 : Rat))) = lf
    have hlfl : ∀ k, (lf k).length = fl.length := fun k => by
      rw [← hlf]
      exact foldl_set_len.trans (List.length_replicate)
    refine jz_cons (ι := Unit) (fun _ => [.fz (IsQM C fl), .fz (IsQM C gs), .fz (IsU fl.length), .fz (IsQM C (lapRows fl gs)), .un, .un, .fz (IsL (IsQ C) row), .fz (IsL (fun a => IsC (.ref a)) qs), .un, .fz (IsU (headQ row)), .un, .un, .un]) (fun _ => Mm (IsQ C) E qs lf) (jz_N (jz_lift mm_stb pB1 (fun E' _ => js_N (js_set (R := IsU (headQ row)) (ps_set (i := 9) nd rfl (.inl rfl) (jc k_head_of (hr.mono (by decide)) (row.map fun q => q.num) (ja_cons (je_m (jlc (Ry := IsI) (fun q : Rat => q.num) [("number", 8)] nd (ji_list (Rx := IsQ C) (xs := row) (pi_list (jv 6))) (fun s H C' cl fp x => jg1 8 nd) (fun s H C' cl fp x hx => jprop ptop (hr.mono (by decide)) x (jv 8 (R := IsQ C x)) rfl trivial rfl) (line_of (m := 1000) (by omega)))) ja_nil) hho))) (fun G' h => h))) (fun F0 σ H z => ⟨(), z⟩)) (fun _ => ?_)
    refine jz_one (jz_M (M' := Mm (IsQ C) E qs (fun k => if k < 0 then (lf k).set (headQ row) (row[fl.length + k]!) else lf k)) (jz_N (N := fun F0 σ H => ∃ G2, (∃ s8 s10, plS s8 ∧ plS s10 ∧ G2 = [.fz (IsQM C fl), .fz (IsQM C gs), .fz (IsU fl.length), .fz (IsQM C (lapRows fl gs)), .un, .un, .fz (IsL (IsQ C) row), .fz (IsL (fun a => IsC (.ref a)) qs), s8, .fz (IsU (headQ row)), s10, .un, .un]) ∧ Zt E G2 (Mm (IsQ C) E qs (fun k => if k < (qs.zip (row.drop fl.length)).length then (lf k).set (headQ row) (row[fl.length + k]!) else lf k)) F0 σ H) ?h1 ?h2) (fun F H m => m.congr fun k _ => by rw [if_neg (by omega)]))
    case h1 =>
      refine jz_for (Rx := fun q : Addr × Rat => IsTp [IsC (.ref q.1), IsQ C q.2]) (xs := qs.zip (row.drop fl.length)) PassesOwn.never rfl (fun E' _ => ?_) (fun E' x => jg2 10 8 nd) (fun _ G => ∃ s8 s10, plS s8 ∧ plS s10 ∧ G = [.fz (IsQM C fl), .fz (IsQM C gs), .fz (IsU fl.length), .fz (IsQM C (lapRows fl gs)), .un, .un, .fz (IsL (IsQ C) row), .fz (IsL (fun a => IsC (.ref a)) qs), s8, .fz (IsU (headQ row)), s10, .un, .un]) (fun j G ⟨s8, s10, h1, h2, e⟩ => ?_) (fun x G h => plain_set (plain_set h)) (fun j => Mm (IsQ C) E qs (fun k => if k < j then (lf k).set (headQ row) (row[fl.length + k]!) else lf k)) (fun i => mm_stb) ⟨_, _, .inl rfl, .inl rfl, rfl⟩ ?_
      · exact ji_zip (Rx := fun a => IsC (.ref a)) (Ry := IsQ C) (xs := qs) (ys := row.drop fl.length) (pi_zip rfl Z.zip (ja_cons (jv 7) (ja_cons (je_m (jm_slice (pe_slice sl_list (jv 6 (R := IsL (IsQ C) row)) (jo_some (jv 2 (R := IsU fl.length))) jo_none) (cut_from _ fl.length row rfl).symm)) ja_nil)))
      · subst e
        exact plain_of (plain_fz (plain_fz (plain_fz (plain_fz (plain_un (plain_un (plain_fz (plain_fz (plain_s h1 (plain_fz (plain_s h2 (plain_un (plain_un plain_nil)))))))))))))
      · rintro j ⟨a, x⟩ G1 hj ⟨s8, s10, h1, h2, rfl⟩
        obtain ⟨q1, q2⟩ := List.getElem?_zip_eq_some.mp hj
        rw [List.getElem?_drop] at q2
        have hx : row[fl.length + j]! = x := by
          obtain ⟨hl, e⟩ := List.getElem?_eq_some_iff.mp q2
          rw [getElem!_pos row _ hl, e]
        have pB2 : Plain [.fz (IsQM C fl), .fz (IsQM C gs), .fz (IsU fl.length), .fz (IsQM C (lapRows fl gs)), .un, .un, .fz (IsL (IsQ C) row), .fz (IsL (fun a => IsC (.ref a)) qs), .fz (IsQ C x), .fz (IsU (headQ row)), .fz (IsC (.ref a)), .un, .un] := plain_of (by repeat (first | exact plain_nil | refine plain_fz ?_ | refine plain_un ?_))
        refine jz_one (jz_N (jz_poke (i := 10) (j := j) (hd := headQ row) (q := a) (x := x) rfl pB2 q1 ?_ (fun E' _ => ps_asg (jv 8) (pg_sub (pv 10) (jv 9) set_list))) (fun F0 σ H z => ⟨_, ⟨_, _, .inr ⟨_, rfl⟩, .inr ⟨_, rfl⟩, rfl⟩, z.imp fun F H m => m.congr fun k hk => ?_⟩))
        · rw [if_neg (by omega), hlfl]
          exact hhd
        · by_cases e : k = j
          · subst e
            rw [if_pos rfl, if_neg (by omega), if_pos (by omega), hx]
          · rw [if_neg e]
            by_cases e2 : k < j
            · rw [if_pos e2, if_pos (by omega)]
            · rw [if_neg e2, if_neg (by omega)]
    case h2 =>
      rintro F0 σ H ⟨G2, ⟨s8, s10, _, _, rfl⟩, z⟩
      refine ⟨_, rfl, (z.wipe [6, 8, 9, 10]).imp fun F H m => m.congr fun k hk => ?_⟩
      rw [foldl_take hi, ← hlf, List.length_zip, List.length_drop]
      rw [if_pos (by omega)]
  · refine jz_one (jz_ret (pv 7) rfl)
end
end Gw
set_option maxHeartbeats 4000000
namespace Gw
open PySem PySem.Spec PyProof.Rows L2
theorem enumN_map {α β : Type} [Inhabited α] (xs : List α) (f : Nat × α → β) : (enumN xs).map f = (List.range xs.length).map fun i => f (i, xs[i]!) := by
  apply List.ext_getElem
  · simp [enumN_len]
  · intro i h1 h2
    have hi : i < xs.length := by simpa using h2
    simp only [List.getElem_map, List.getElem_range]
    have h3 : i < (enumN xs).length := by rw [enumN_len]; exact hi
    obtain ⟨a1, a2⟩ := enumN_get (List.getElem?_eq_getElem h3)
    rw [List.getElem?_eq_getElem hi] at a2
    congr 1
    refine Prod.ext a1 ?_
    show ((enumN xs)[i]).2 = xs[i]!
    rw [getElem!_pos xs i hi]
    exact (Option.some.inj a2).symm
theorem b2q {a b : Nat} : (((if decide ((a : Int) = (b : Int)) = true then (1 : Int) else 0) : Int) : Rat) = if a = b then 1 else 0 := by
  by_cases h : a = b
  · rw [if_pos h, if_pos (by rw [h]; simp)]
    rfl
  · rw [if_neg h, if_neg (by simpa using fun e => h (by omega))]
    rfl
def b01 (b : Prop) [Decidable b] : Rat := if b then 1 else 0
/-- what table_of_standings asks -/
structure TbP (ws : List Rat) (ss : List St3) (flows : List (List Rat)) : Prop where
  n : ws.length ≤ 100
  sl : ss.length ≤ 100
  lt : ∀ s ∈ ss, s.1 < ws.length
  fT : FitsL 0 ws
  fS : ∀ x ∈ ws, FitsO x (sumR ws)
  f1 : ∀ s ∈ ss, Fits ws[s.1]! s.2.1
  f2 : ∀ s ∈ ss, Fits (ws[s.1]! * s.2.1) s.2.2
  f3 : ∀ x ∈ sharesR ws, ∀ i : Int, i = 0 ∨ i = 1 → Fits x (i : Rat)
  f4 : ∀ s ∈ ss, ∀ x ∈ sharesR ws, ∀ i : Int, i = 0 ∨ i = 1 → Fits (ws[s.1]! * s.2.1 * s.2.2) ((i : Rat) - x)
  ah : AhP flows (goalsR ws ss)
  f5 : ∀ p q : Nat, p < ws.length → q < ws.length → ∀ x ∈ ((goalsR ws ss)[p]!).zip ((aheadsR flows (goalsR ws ss))[q]!), Fits x.1 x.2
  f6 : ∀ p q : Nat, p < ws.length → q < ws.length → FitsL 0 ((((goalsR ws ss)[p]!).zip ((aheadsR flows (goalsR ws ss))[q]!)).map fun x => x.1 * x.2)
  f7 : ∀ p q : Nat, p < ws.length → q < ws.length → FitsO (sumR ((((goalsR ws ss)[p]!).zip ((aheadsR flows (goalsR ws ss))[q]!)).map fun x => x.1 * x.2)) (sumR ws)
  f8 : ∀ p q : Nat, p < ws.length → q < ws.length → Fits (bothR ws (goalsR ws ss)[p]! (aheadsR flows (goalsR ws ss))[q]!) ((2 : Int) : Rat)
  f9 : ∀ x ∈ sharesR ws, ∀ y ∈ sharesR ws, ∀ i : Int, i = 0 ∨ i = 1 → Fits x ((i : Rat) - y)
  f10 : ∀ p q : Nat, p < ws.length → q < ws.length → ∀ i : Int, i = 0 ∨ i = 1 → Fits (bothR ws (goalsR ws ss)[p]! (aheadsR flows (goalsR ws ss))[q]! * ((2 : Int) : Rat)) ((sharesR ws)[p]! * ((i : Rat) - (sharesR ws)[q]!))
theorem goalsR_enum (ws : List Rat) (ss : List St3) : goalsR ws ss = (enumN (sharesR ws)).map fun p => goalOf ws ss p.1 p.2 := by
  unfold goalsR enumN
  rw [List.map_map]
  rfl
theorem sharesR_len (ws : List Rat) : (sharesR ws).length = ws.length := by simp [sharesR]
theorem goalsR_len (ws : List Rat) (ss : List St3) : (goalsR ws ss).length = ws.length := by rw [goalsR_enum, List.length_map, enumN_len, sharesR_len]
theorem aheadsR_len (flows goals : List (List Rat)) : (aheadsR flows goals).length = goals.length := by simp [aheadsR]
def cellE (ws : List Rat) (goals : List (List Rat)) (p q : Nat × Rat) (ahead : List Rat) : Rat := bothR ws goals[p.1]! ahead * ((2 : Int) : Rat) - p.2 * ((if p.1 = q.1 then (1 : Rat) else 0) - q.2)
section
variable {P : Program} {w : World} {K : PySem.W.Frag} {mg : Str → Option Value} {base : Heap} {C : Addr}
abbrev sp_table_of_standings (C : Addr) : Sp := Pr (ι := List Rat × List Sd × List (List Rat)) (fun w => [IsL (IsQ C) w.1, IsL (IsSd C) w.2.1, IsQM C w.2.2]) (fun w => TbP w.1 w.2.1 w.2.2) (fun w => IsQM C (tableR w.1 w.2.1 w.2.2))
theorem i01 (b : Bool) : (if b = true then (1 : Int) else 0) = 0 ∨ (if b = true then (1 : Int) else 0) = 1 := by cases b <;> simp
abbrev Kn_table_of_standings (P : Program) (w : World) (K : PySem.W.Frag) (mg : Str → Option Value) (base : Heap) (C : Addr) : Prop := Kn P w K mg base "table_of_standings" 9 ["weights", "standings", "flows"] (sp_table_of_standings C)
theorem ok_table_of_standings (Z : Glo K mg C) (omul : Opr P w K mg base C .Mult 6 (fun w => Fits w.1 w.2) (· * ·)) (osub : Opr P w K mg base C .Sub 6 (fun w => Fits w.1 w.2) (· - ·)) (orsub : OprR P w K mg base C .Sub 6 (fun w => Fits w.1 w.2) (fun q r => r - q)) (mover : MethK P w K mg base C "over" 6 ["self", "other"] (sp_Rover C)) (k_total_of : Kn_total_of P w K mg base C) (k_worths_ahead : Kn_worths_ahead P w K mg base C) {f : Addr} {fd : FuncData} (Fd : FnP K "table_of_standings" st_table_of_standings f fd) : FnOk P w K mg base CX0 9 f fd ["weights", "standings", "flows"] (sp_table_of_standings C) := by
  refine fn_pr Fd sc_table_of_standings (fun u => by first | rfl | (cases u <;> rfl)) (fun _ => False) (fun _ _ h => h.elim) (fun X u E hX hp hE => ?_)
  obtain ⟨cdv, A, outer, s, H, E', rfl, hr⟩ := hX
  refine PSs.nox ?_
  have nd := (sc_table_of_standings).nd
  replace hr : Room 8 (cxOf CX0 P w K mg base N_table_of_standings "table_of_standings" (defScope st_table_of_standings) f cdv A outer s H E').nox.A := hr
  obtain ⟨ws, ss, fl⟩ := u
  have hp : TbP ws ss fl := hp
  have hn := hp.n
  have hsl := hp.sl
  have hshl := sharesR_len ws
  have hgl := goalsR_len ws ss
  have hal := aheadsR_len fl (goalsR ws ss)
  refine js_seq (js_set (R := IsQ C (sumR ws)) (ps_set (i := 3) nd rfl (.inr rfl) (jc k_total_of (hr.mono (by decide)) ws (ja_cons (jv 0) ja_nil) hp.fT))) ?_
  refine js_seq (jslc (i := 4) (Ry := IsQ C) (fun x => x / sumR ws) [("weight", 16)] nd (ji_list (Rx := IsQ C) (xs := ws) (pi_list (jv 0))) (fun s H C' cl fp x => jg1 16 nd) (fun s H C' cl fp x hx => jmeth mover (hr.mono (by decide)) (x, sumR ws) (jv 16) (ja_cons (je_conv (jv 3) isQ_nm) ja_nil) rfl (hp.fS x hx)) (line_of (m := 1000) (by omega))) ?_
  refine js_frz (i := 4) rfl ?_
  refine js_seq (js_setM (Rm := LsOf (IsL (IsQ C)) []) (ps_set (i := 5) nd rfl (.inl rfl) (jm_ls [] (jm_lst (pe_lst ja_nil))))) ?_
  refine js_cons (N1 := fun G => G = [.fz (IsL (IsQ C) ws), .fz (IsL (IsSd C) ss), .fz (IsQM C fl), .fz (IsQ C (sumR ws)), .fz (IsL (IsQ C) (sharesR ws)), .mt (LsOf (IsL (IsQ C)) ((enumN (sharesR ws)).map fun p => goalOf ws ss p.1 p.2)), .un, .un, .un, .un, .un, .un, .un, .un, .un, .un, .un, .un]) (js_for PassesOwn.never rfl (ji_enumN (Rx := IsQ C) (xs := sharesR ws) (pi_enum rfl Z.enum (ja_cons (jv 4) ja_nil))) (fun x => jg2 6 7 nd)
    (fun i G => G = [.fz (IsL (IsQ C) ws), .fz (IsL (IsSd C) ss), .fz (IsQM C fl), .fz (IsQ C (sumR ws)), .fz (IsL (IsQ C) (sharesR ws)), .mt (LsOf (IsL (IsQ C)) (((enumN (sharesR ws)).take i).map fun p => goalOf ws ss p.1 p.2)), .un, .un, .un, .un, .un, .un, .un, .un, .un, .un, .un, .un]) rfl ?_ (fun G1 h => by rwa [List.take_length] at h)) ?_
  · rintro i p G1 hi rfl
    have hpm := List.mem_of_getElem? (mem_enumN (List.mem_of_getElem? hi)).2
    refine js_seq (js_append (i := 5) (R := IsL (IsQ C) (goalOf ws ss p.1 p.2)) (Rm' := LsOf (IsL (IsQ C)) (((enumN (sharesR ws)).take (i + 1)).map fun p => goalOf ws ss p.1 p.2)) (ps_expr (pe_bm PySem.F.plainAttrs_list PySem.F.slot_list_append PySem.F.type_list_append mt_append (pv 5) (pa_cons (je_m (jlc (Ry := IsQ C) (fun one : Sd => ws[one.1]! * one.2.1 * one.2.2 * ((if one.1 = p.1 then (1 : Rat) else 0) - p.2)) [("one", 15)] nd (ji_list (Rx := IsSd C) (xs := ss) (pi_list (jv 1))) (fun s H C' cl fp x => jg1 15 nd) (fun s H C' cl fp one ho => ?_) (line_of (m := 1000) (by omega)))) pa_nil))) rfl (fun vs v F a b => ?_) (fun vs F a => ?_)) ?_
    · have e : (((if decide ((one.1 : Int) = (p.1 : Int)) = true then (1 : Int) else 0) : Int) : Rat) = if one.1 = p.1 then 1 else 0 := b2q
      refine joQ omul (hr.mono (by decide)) (joQ omul (hr.mono (by decide)) (joQ omul (hr.mono (by decide)) (je_op (pe_ix ix_list (jv 0 (R := IsL (IsQ C) ws)) (je_op (pe_ix ix_tup (jv 15 (R := IsSd C one)) jI (fun _ _ => rfl)) (rop_ixT (j := 0) rfl)) (fun _ _ => rfl)) (rop_ixB (hp.lt one ho))) (je_op (pe_ix ix_tup (jv 15 (R := IsSd C one)) jI (fun _ _ => rfl)) (rop_ixT (j := 1) rfl)) (hp.f1 one ho)) (je_op (pe_ix ix_tup (jv 15 (R := IsSd C one)) jI (fun _ _ => rfl)) (rop_ixT (j := 2) rfl)) (hp.f2 one ho)) (joIQ_sub orsub (hr.mono (by decide)) (jbT call_int1 Z.int boot_int (ja_cons (je_op (pe_cmpR op_eq (je_op (pe_ix ix_tup (jv 15 (R := IsSd C one)) jI (fun _ _ => rfl)) (rop_ixT (j := 0) rfl)) (jv 6 (R := IsU p.1)) (nomark _)) rop_eqI) ja_nil) rc_int) (jv 7 (R := IsQ C p.2)) (hp.f3 _ hpm _ (i01 _)) (by rw [e])) ?_
      rw [← e]
      exact hp.f4 one ho _ hpm _ (i01 _)
    · rw [map_take hi]
      exact (a.here.snoc b).up
    · rw [← a.len, List.length_map, List.length_take, enumN_len]
      exact line_of (m := 1000) (by omega)
    · exact js_weak (le_wipe _ [6, 7]) (js_nil rfl)
  rintro _ rfl
  rw [← goalsR_enum]
  refine js_frz (i := 5) rfl ?_
  refine js_seq (js_parFM (i := 8) (j := 9) (Ra := IsQM C (aheadsR fl (goalsR ws ss))) (Rm := LsOf (IsL (IsQ C)) []) (by decide) (ps_par (i := 8) (j := 9) rfl nd rfl rfl (by decide) rfl rfl (pa_cons (jc k_worths_ahead hr (fl, goalsR ws ss) (ja_cons (jv 2) (ja_cons (jv 5) ja_nil)) hp.ah) (pa_cons (jm_ls [] (jm_lst (pe_lst ja_nil))) pa_nil)) rfl)) ?_
  have hT : tableR ws ss fl = ((enumN (sharesR ws)).map fun p => (enumN (aheadsR fl (goalsR ws ss))).map fun q => cellE ws (goalsR ws ss) p (q.1, (sharesR ws)[q.1]!) q.2) := by
    rw [enumN_map]
    unfold tableR
    rw [hshl]
    refine List.map_congr_left fun p hp' => ?_
    rw [enumN_map, hal, hgl]
    rfl
  show PSs _ _ (tS E _ (Rn (IsQM C (tableR ws ss fl))) _)
  rw [hT]
  refine js_cons (N1 := fun G => G = [.fz (IsL (IsQ C) ws), .fz (IsL (IsSd C) ss), .fz (IsQM C fl), .fz (IsQ C (sumR ws)), .fz (IsL (IsQ C) (sharesR ws)), .fz (IsQM C (goalsR ws ss)), .un, .un, .fz (IsQM C (aheadsR fl (goalsR ws ss))), .mt (LsOf (IsL (IsQ C)) ((enumN (sharesR ws)).map fun p => (enumN (aheadsR fl (goalsR ws ss))).map fun q => cellE ws (goalsR ws ss) p (q.1, (sharesR ws)[q.1]!) q.2)), .un, .un, .un, .un, .un, .un, .un, .un]) (js_for PassesOwn.never rfl (ji_enumN (Rx := IsQ C) (xs := sharesR ws) (pi_enum rfl Z.enum (ja_cons (jv 4) ja_nil))) (fun x => jg2 6 7 nd)
    (fun i G => G = [.fz (IsL (IsQ C) ws), .fz (IsL (IsSd C) ss), .fz (IsQM C fl), .fz (IsQ C (sumR ws)), .fz (IsL (IsQ C) (sharesR ws)), .fz (IsQM C (goalsR ws ss)), .un, .un, .fz (IsQM C (aheadsR fl (goalsR ws ss))), .mt (LsOf (IsL (IsQ C)) (((enumN (sharesR ws)).take i).map fun p => (enumN (aheadsR fl (goalsR ws ss))).map fun q => cellE ws (goalsR ws ss) p (q.1, (sharesR ws)[q.1]!) q.2)), .un, .un, .un, .un, .un, .un, .un, .un]) rfl ?_ (fun G1 h => by rwa [List.take_length] at h)) ?_
  · rintro i p G1 hi rfl
    obtain ⟨pl, pe⟩ := mem_enumN (List.mem_of_getElem? hi)
    have hpm := List.mem_of_getElem? pe
    have hp1 : p.1 < ws.length := by omega
    have hp2 : (sharesR ws)[p.1]! = p.2 := by
      obtain ⟨hl, e⟩ := List.getElem?_eq_some_iff.mp pe
      rw [getElem!_pos (sharesR ws) p.1 hl, e]
    refine js_seq (js_setM (Rm := LsOf (IsQ C) []) (ps_set (i := 10) nd rfl (.inl rfl) (jm_ls [] (jm_lst (pe_lst ja_nil))))) ?_
    refine js_cons (N1 := fun G => G = [.fz (IsL (IsQ C) ws), .fz (IsL (IsSd C) ss), .fz (IsQM C fl), .fz (IsQ C (sumR ws)), .fz (IsL (IsQ C) (sharesR ws)), .fz (IsQM C (goalsR ws ss)), .fz (IsU p.1), .fz (IsQ C p.2), .fz (IsQM C (aheadsR fl (goalsR ws ss))), .mt (LsOf (IsL (IsQ C)) (((enumN (sharesR ws)).take i).map fun p => (enumN (aheadsR fl (goalsR ws ss))).map fun q => cellE ws (goalsR ws ss) p (q.1, (sharesR ws)[q.1]!) q.2)), .mt (LsOf (IsQ C) ((enumN (aheadsR fl (goalsR ws ss))).map fun q => cellE ws (goalsR ws ss) p (q.1, (sharesR ws)[q.1]!) q.2)), .un, .un, .un, .un, .un, .un, .un]) (js_for PassesOwn.never rfl (ji_enumN (Rx := IsL (IsQ C)) (xs := aheadsR fl (goalsR ws ss)) (pi_enum rfl Z.enum (ja_cons (jv 8) ja_nil))) (fun x => jg2 11 12 nd)
      (fun j G => G = [.fz (IsL (IsQ C) ws), .fz (IsL (IsSd C) ss), .fz (IsQM C fl), .fz (IsQ C (sumR ws)), .fz (IsL (IsQ C) (sharesR ws)), .fz (IsQM C (goalsR ws ss)), .fz (IsU p.1), .fz (IsQ C p.2), .fz (IsQM C (aheadsR fl (goalsR ws ss))), .mt (LsOf (IsL (IsQ C)) (((enumN (sharesR ws)).take i).map fun p => (enumN (aheadsR fl (goalsR ws ss))).map fun q => cellE ws (goalsR ws ss) p (q.1, (sharesR ws)[q.1]!) q.2)), .mt (LsOf (IsQ C) (((enumN (aheadsR fl (goalsR ws ss))).take j).map fun q => cellE ws (goalsR ws ss) p (q.1, (sharesR ws)[q.1]!) q.2)), .un, .un, .un, .un, .un, .un, .un]) rfl ?_ (fun G1 h => by rwa [List.take_length] at h)) ?_
    · rintro j q G1 hj rfl
      obtain ⟨ql, qe⟩ := mem_enumN (List.mem_of_getElem? hj)
      have hq1 : q.1 < ws.length := by omega
      have hq2 : (aheadsR fl (goalsR ws ss))[q.1]! = q.2 := by
        obtain ⟨hl, e⟩ := List.getElem?_eq_some_iff.mp qe
        rw [getElem!_pos (aheadsR fl (goalsR ws ss)) q.1 hl, e]
      have hsm : (sharesR ws)[q.1]! ∈ sharesR ws := get_mem (by omega)
      have h5 := hp.f5 p.1 q.1 hp1 hq1
      have h6 := hp.f6 p.1 q.1 hp1 hq1
      have h7 := hp.f7 p.1 q.1 hp1 hq1
      have h8 := hp.f8 p.1 q.1 hp1 hq1
      have h10 := hp.f10 p.1 q.1 hp1 hq1
      rw [hq2] at h5 h6 h7 h8 h10
      rw [hp2] at h10
      refine js_seq (js_set (R := IsQ C (bothR ws (goalsR ws ss)[p.1]! q.2)) (ps_set (i := 13) nd rfl (.inl rfl) (jmeth mover (hr.mono (by decide)) (sumR ((((goalsR ws ss)[p.1]!).zip q.2).map fun x => x.1 * x.2), sumR ws) (jc k_total_of (hr.mono (by decide)) ((((goalsR ws ss)[p.1]!).zip q.2).map fun x => x.1 * x.2) (ja_cons (je_m (jlc (Ry := IsQ C) (fun x : Rat × Rat => x.1 * x.2) [("goal", 14), ("worth", 17)] nd (ji_zip (Rx := IsQ C) (Ry := IsQ C) (xs := (goalsR ws ss)[p.1]!) (ys := q.2) (pi_zip rfl Z.zip (ja_cons (je_op (pe_ix ix_list (jv 5 (R := IsQM C (goalsR ws ss))) (jv 6 (R := IsU p.1)) (fun _ _ => rfl)) (rop_ixB (by omega))) (ja_cons (jv 12) ja_nil)))) (fun s H C' cl fp x => jg2 14 17 nd) (fun s H C' cl fp x hx => joQ omul (hr.mono (by decide)) (jv 14) (jv 17) (h5 x hx)) (line_of (m := 1000) ?_))) ja_nil) h6) (ja_cons (je_conv (jv 3) isQ_nm) ja_nil) rfl h7))) ?_
      · have hg := hp.ah.gr _ (get_mem (xs := goalsR ws ss) (i := p.1) (by omega))
        have hnf := hp.ah.n
        rw [List.length_zip]
        omega
      have e : (((if decide ((p.1 : Int) = (q.1 : Int)) = true then (1 : Int) else 0) : Int) : Rat) = if p.1 = q.1 then 1 else 0 := b2q
      refine js_seq (js_append (i := 10) (R := IsQ C (cellE ws (goalsR ws ss) p (q.1, (sharesR ws)[q.1]!) q.2)) (Rm' := LsOf (IsQ C) (((enumN (aheadsR fl (goalsR ws ss))).take (j + 1)).map fun q => cellE ws (goalsR ws ss) p (q.1, (sharesR ws)[q.1]!) q.2)) (ps_expr (pe_bm PySem.F.plainAttrs_list PySem.F.slot_list_append PySem.F.type_list_append mt_append (pv 10) (pa_cons (joQ osub (hr.mono (by decide)) (joQI omul (hr.mono (by decide)) (jv 13) jI h8) (joQ omul (hr.mono (by decide)) (jv 7 (R := IsQ C p.2)) (joIQ_sub orsub (hr.mono (by decide)) (jbT call_int1 Z.int boot_int (ja_cons (je_op (pe_cmpR op_eq (jv 6 (R := IsU p.1)) (jv 11 (R := IsU q.1)) (nomark _)) rop_eqI) ja_nil) rc_int) (je_op (pe_ix ix_list (jv 4 (R := IsL (IsQ C) (sharesR ws))) (jv 11 (R := IsU q.1)) (fun _ _ => rfl)) (rop_ixB (by omega))) (hp.f3 _ hsm _ (i01 _)) (by rw [e])) ?_) ?_) pa_nil))) rfl (fun vs v F a b => ?_) (fun vs F a => ?_)) ?_
      · rw [← e]
        exact hp.f9 _ hpm _ hsm _ (i01 _)
      · rw [← e]
        exact h10 _ (i01 _)
      · rw [map_take hj]
        exact (a.here.snoc b).up
      · rw [← a.len, List.length_map, List.length_take, enumN_len]
        exact line_of (m := 1000) (by omega)
      · exact js_weak (le_wipe _ [11, 12, 13]) (js_nil rfl)
    · rintro _ rfl
      refine js_seq (js_appendM (i := 9) (j := 10) (Rm' := LsOf (IsL (IsQ C)) (((enumN (sharesR ws)).take (i + 1)).map fun p => (enumN (aheadsR fl (goalsR ws ss))).map fun q => cellE ws (goalsR ws ss) p (q.1, (sharesR ws)[q.1]!) q.2)) (ps_expr (pe_bm PySem.F.plainAttrs_list PySem.F.slot_list_append PySem.F.type_list_append mt_append (pv 9) (pa_cons (pv 10) pa_nil))) (by decide) rfl rfl (fun vs v F a b => ?_) (fun vs F a => ?_)) ?_
      · rw [map_take hi]
        exact (a.here.snoc b).up
      · rw [← a.len, List.length_map, List.length_take, enumN_len]
        exact line_of (m := 1000) (by omega)
      · exact js_weak (le_wipe _ [6, 7, 10]) (js_nil rfl)
  · rintro _ rfl
    exact js_one (js_retV (pv 9) rfl)
end
end Gw
set_option maxHeartbeats 4000000
namespace Gw
open PySem PySem.Spec PyProof.Rows L2
/-- what guessed_table asks -/
structure GtP (rows : List (List Rat)) (ws : List Rat) (gs : List (List (Rat × Rat))) : Prop where
  p : PropP rows
  w : WeiP rows.length ws
  gl : gs.length = rows.length
  g : ∀ g ∈ gs, GuessP g
  r : RowsOk rows.length rows ws
  s : ∀ s ∈ standR gs, SdOk rows.length s
  s8 : (standR gs).length ≤ 8
  s0 : 0 < (standR gs).length
  c : Conn (flowsR rows ws (standR gs))
  t : TbP ws (standR gs) (flowsR rows ws (standR gs))
def guessedR (rows : List (List Rat)) (ws : List Rat) (gs : List (List (Rat × Rat))) : List (List Rat) := tableR ws (standR gs) (flowsR rows ws (standR gs))
theorem flowsR_len (rows : List (List Rat)) (ws : List Rat) (ss : List St3) : (flowsR rows ws ss).length = ss.length := by simp [flowsR]
theorem flowsR_row {rows : List (List Rat)} {ws : List Rat} {ss : List St3} : ∀ r ∈ flowsR rows ws ss, r.length = (flowsR rows ws ss).length := by
  intro r hr
  rw [flowsR_len]
  unfold flowsR at hr
  obtain ⟨p, _, rfl⟩ := List.mem_map.mp hr
  simp
theorem jS {X : Cx} {E : En} {G : List Sl} {pos : Pos} {s : Str} {j : Nat} : PE X (.Constant (.str s) j pos) (tE E G (IsS s)) := je_c pe_str fun _ => rfl
section
variable {P : Program} {w : World} {K : PySem.W.Frag} {mg : Str → Option Value} {base : Heap} {C : Addr}
abbrev GtI : Type := List (List Rat) × List Rat × List (List (Rat × Rat))
abbrev sp_guessed_table (C : Addr) : Sp := Pr (ι := GtI) (fun w => [IsSNM C w.1, IsSN C w.2.1, IsSq (IsSG C) w.2.2]) (fun w => GtP w.1 w.2.1 w.2.2) (fun w => IsQM C (guessedR w.1 w.2.1 w.2.2))
abbrev Kn_guessed_table (P : Program) (w : World) (K : PySem.W.Frag) (mg : Str → Option Value) (base : Heap) (C : Addr) : Prop := Kn P w K mg base "guessed_table" 10 ["proposal", "weights", "guesses"] (sp_guessed_table C)
theorem ok_guessed_table (Z : Glo K mg C) (k_want_proposal : Kn_want_proposal P w K mg base C) (k_want_weights : Kn_want_weights P w K mg base C) (k_standings_of : Kn_standings_of P w K mg base C) (k_want_guesses : Kn_want_guesses P w K mg base C) (k_flows_of_standings : Kn_flows_of_standings P w K mg base C) (k_is_joined : Kn_is_joined P w K mg base C) (k_want_at_most : Kn_want_at_most P w K mg base C) (k_table_of_standings : Kn_table_of_standings P w K mg base C) {f : Addr} {fd : FuncData} (Fd : FnP K "guessed_table" st_guessed_table f fd) : FnOk P w K mg base CX0 10 f fd ["proposal", "weights", "guesses"] (sp_guessed_table C) := by
  refine fn_pr Fd sc_guessed_table (fun u => by first | rfl | (cases u <;> rfl)) (fun _ => False) (fun _ _ h => h.elim) (fun X u E hX hp hE => ?_)
  obtain ⟨cdv, A, outer, s, H, E', rfl, hr⟩ := hX
  refine PSs.nox ?_
  have nd := (sc_guessed_table).nd
  replace hr : Room 9 (cxOf CX0 P w K mg base N_guessed_table "guessed_table" (defScope st_guessed_table) f cdv A outer s H E').nox.A := hr
  obtain ⟨rows, ws, gs⟩ := u
  have hp : GtP rows ws gs := hp
  obtain ⟨t8, g8⟩ := Z.stand
  have hp6 := hp.p.hi
  have hss := hp.s8
  refine js_seq (js_set (R := IsQM C rows) (ps_set (i := 3) nd rfl (.inl rfl) (jc k_want_proposal (hr.mono (by decide)) rows (ja_cons (jv 0) ja_nil) hp.p))) ?_
  refine js_seq (js_set (R := IsL (IsQ C) ws) (ps_set (i := 4) nd rfl (.inl rfl) (jc k_want_weights (hr.mono (by decide)) (ws, rows.length) (ja_cons (jbB call_len Z.len boot_len (ja_cons (jv 3 (R := IsQM C rows)) ja_nil) rc_len) (ja_cons (jv 1) ja_nil)) hp.w))) ?_
  refine js_seq (js_set (R := IsL (IsSd C) (standR gs)) (ps_set (i := 5) nd rfl (.inl rfl) (jc k_standings_of (hr.mono (by decide)) gs (ja_cons (jc k_want_guesses (hr.mono (by decide)) (gs, rows.length) (ja_cons (jbB call_len Z.len boot_len (ja_cons (jv 3 (R := IsQM C rows)) ja_nil) rc_len) (ja_cons (jv 2) ja_nil)) ⟨hp.gl, by show rows.length ≤ 1000; omega, hp.g⟩) ja_nil) ⟨by have := hp.gl; omega, fun g hg => (hp.g g hg).hi⟩))) ?_
  refine js_seq (js_set (R := IsQM C (flowsR rows ws (standR gs))) (ps_set (i := 6) nd rfl (.inl rfl) (jc k_flows_of_standings (hr.mono (by decide)) (rows, ws, standR gs) (ja_cons (jv 3) (ja_cons (jv 4) (ja_cons (jv 5) ja_nil))) ⟨rows.length, hp.r, by show (standR gs).length ≤ 100; omega, hp.s⟩))) ?_
  refine js_seq (G1 := [.fz (IsSNM C rows), .fz (IsSN C ws), .fz (IsSq (IsSG C) gs), .fz (IsQM C rows), .fz (IsL (IsQ C) ws), .fz (IsL (IsSd C) (standR gs)), .fz (IsQM C (flowsR rows ws (standR gs)))]) (js_if (b1 := false) (jt_not (b1 := true) (jt_val (pt_val (jc k_is_joined (hr.mono (by decide)) (flowsR rows ws (standR gs)) (ja_cons (jv 6) ja_nil) ⟨by rw [flowsR_len]; exact hp.s0, by rw [flowsR_len]; omega, flowsR_row, hp.c⟩)))) (fun h => nomatch h) (fun _ => js_nil rfl)) ?_
  refine js_seq (js_expr (jc k_want_at_most (hr.mono (by decide)) ("standings", 8, ((standR gs).length : Int)) (ja_cons jS (ja_cons (jgI g8) (ja_cons (jbB call_len Z.len boot_len (ja_cons (jv 5 (R := IsL (IsSd C) (standR gs))) ja_nil) rc_len) ja_nil))) (by show ((standR gs).length : Int) ≤ 8; omega))) ?_
  exact js_one (js_ret (jc k_table_of_standings hr (ws, standR gs, flowsR rows ws (standR gs)) (ja_cons (jv 4) (ja_cons (jv 5) (ja_cons (jv 6) ja_nil))) hp.t))
end
end Gw
set_option maxHeartbeats 4000000
/-! Values that are not known: kinds with an open part. -/
namespace Gw
open PySem PySem.Spec PyProof.Rows L2
/-- R stands when the frozen part grows -/
def Mo (R : V → Hp → Prop) : Prop := ∀ v F F', R v F → Ex F F' → R v F'
theorem Mo.up {R : V → Hp → Prop} (h : Mo R) {v : V} {F : Hp} (r : R v F) : Up R v F := fun F' e => h v F F' r e
theorem mo_I {i : Int} : Mo (IsI i) := fun _ _ _ h _ => h
theorem mo_B {b : Bool} : Mo (IsB b) := fun _ _ _ h _ => h
theorem mo_L {R : List V → Hp → Prop} : Mo (LstOf R) := fun v F F' h e => LstOf.up h F' e
theorem mo_T {R : List V → Hp → Prop} : Mo (TupOf R) := fun v F F' h e => TupOf.up h F' e
theorem mo_Q {C : Addr} {q : Rat} : Mo (IsQ C q) := fun _ _ _ h e => h.mono e
theorem mo_Nm {C : Addr} {q : Rat} : Mo (IsNm C q) := fun _ _ _ h e => h.mono e
theorem mo_som {α : Type} {P : α → Prop} {R : α → V → Hp → Prop} (h : ∀ x, Mo (R x)) : Mo (Som P R) := fun v F F' ⟨x, px, r⟩ e => ⟨x, px, h x v F F' r e⟩
section
variable {X : Cx} {E : En} {G : List Sl} {e a b c : Expr} {R R' Ra Rb Rz : V → Hp → Prop} {pos : Pos} {st : Stmt} {rest : List Stmt} {pp : Option Addr} {α : Type} {P : α → Prop} {Rx : α → V → Hp → Prop}
theorem rop_somR {r : R2} (hm : ∀ x, Mo (Rx x)) (h : ∀ x, P x → ROp pp r Ra (Rx x) Rz) : ROp pp r Ra (Som P Rx) Rz := fun v y F H Q ok u1 u2 k => by
  obtain ⟨x, px, rx⟩ := u2.here
  exact h x px v y F H Q ok u1 ((hm x).up rx) k
theorem rop_somL {r : R2} (hm : ∀ x, Mo (Rx x)) (h : ∀ x, P x → ROp pp r (Rx x) Ra Rz) : ROp pp r (Som P Rx) Ra Rz := fun v y F H Q ok u1 u2 k => by
  obtain ⟨x, px, rx⟩ := u1.here
  exact h x px v y F H Q ok ((hm x).up rx) u2 k
theorem rop_to {r : R2} (h : ROp pp r Ra Rb R) (k : ∀ v F, R v F → Rz v F) : ROp pp r Ra Rb Rz := fun v y F H Q ok u1 u2 q => h v y F H Q ok u1 u2 fun z F' H' g u => q z F' H' g (u.imp fun F w => k z F w)
/-- a slot's list with an open part -/
def SomM {α : Type} (P : α → Prop) (R : α → List V → Hp → Prop) (vs : List V) (F : Hp) : Prop := ∃ x, P x ∧ R x vs F
theorem js_openM {Rm : α → List V → Hp → Prop} {i : Nat} {st : List Stmt} {Rt : V → Hp → Hp → Prop} {N : List Sl → Prop} (h : G[i]? = some (.mt (SomM P Rm))) (hm : ∀ x vs F F', Rm x vs F → Ex F F' → Rm x vs F')
    (k : ∀ x, P x → PSs X st (tS E (G.set i (.mt (Rm x))) Rt N)) : PSs X st (tS E G Rt N) := PSs_imp (PSs_any (ι := { x // P x }) (t := fun q => tS E (G.set i (.mt (Rm q.1))) Rt N) fun q => k q.1 q.2) fun D σ H ⟨F, S, kn, kr⟩ => by
  obtain ⟨p, vs, e1, h1, h2, h3, u⟩ := S.mt i _ h
  obtain ⟨x, px, r⟩ := u.here
  have hl : i < G.length := (List.getElem?_eq_some_iff.mp h).1
  have S2 := S.set_mt (i := i) (R := Rm x) (p := p) (vs := vs) h1 h2 h3 (fun F' e => hm x vs F F' r e) (fun j Sj hj hG hs => S.ap j i Sj _ p hj hG h hs e1)
  have e2 : σ.set i (some (.ref p)) = σ := by
    apply List.ext_getElem?
    intro j
    by_cases hj : j = i
    · subst hj
      rw [List.getElem?_set_self (List.getElem?_eq_some_iff.mp e1).1, e1]
    · rw [List.getElem?_set_ne (Ne.symm hj)]
  rw [e2] at S2
  exact ⟨⟨x, px⟩, F, S2, kn, kr⟩
/-- a test whose answer is not known but fulfils P -/
def tTS (E : En) (G : List Sl) (P : Bool → Prop) : TT := fun σ H Q => ∃ F, Sat E G σ F H ∧ ∀ b F' H', P b → Gr E.pp F H F' H' → Q b H'
variable {Pb : Bool → Prop}
theorem jts_val (p : PT X e (tB (tE E G (Som Pb IsB)))) : PT X e (tTS E G Pb) := PT_imp p fun σ H Q ⟨F, S, k⟩ => ⟨F, S, fun v F' H' g u => by
  obtain ⟨b, pb, r⟩ := u.here
  exact ⟨b, r, k b F' H' pb g⟩⟩
theorem jts_cmp {r : R2} (p : PT X e (tTest (tOp r (tE E G Ra) (tE E G Rb)))) (h : ROp E.pp r Ra Rb (Som Pb IsB)) : PT X e (tTS E G Pb) := PT_imp p fun σ H Q ⟨F, S, k⟩ =>
  ⟨F, S, fun x F1 H1 g1 u1 => ⟨F1, S.gr g1, fun y F2 H2 g2 u2 => h x y F2 H2 _ g2.ok (u1.mono g2.f) u2 fun z F3 H3 g3 u3 => by
    obtain ⟨b, pb, rb⟩ := u3.here
    exact ⟨b, rb, k b F3 H3 pb ((g1.trans g2).trans g3)⟩⟩⟩
theorem jts_not (p : PT X a (tTS E G Pb)) : PT X (.UnaryOp .Not a pos) (tTS E G (fun b => Pb (!b))) := PT_imp (pt_not p) fun σ H Q ⟨F, S, k⟩ => ⟨F, S, fun b F' H' pb g => k (!b) F' H' (by show Pb (!!b); rw [Bool.not_not]; exact pb) g⟩
theorem js_ifS {p q : List Stmt} {Rt : V → Hp → Hp → Prop} {N : List Sl → Prop} (hc : PT X c (tTS E G Pb)) (h1 : Pb true → PSs X p (tS E G Rt N)) (h2 : Pb false → PSs X q (tS E G Rt N)) : PS X (.If c p q pos) (tS E G Rt N) :=
  PS_imp (ps_if hc (PSs_when h1) (PSs_when h2)) fun D σ H ⟨F, S, kn, kr⟩ => ⟨F, S, fun b F1 H1 pb g1 => by
    cases b with
    | true =>
      show (Pb true ∧ tS E G Rt N D σ H1)
      exact ⟨pb, F1, S.gr g1, fun G2 σ2 F2 H2 n2 S2 e2 => kn G2 σ2 F2 H2 n2 S2 (g1.f.trans e2), kr⟩
    | false =>
      show (Pb false ∧ tS E G Rt N D σ H1)
      exact ⟨pb, F1, S.gr g1, fun G2 σ2 F2 H2 n2 S2 e2 => kn G2 σ2 F2 H2 n2 S2 (g1.f.trans e2), kr⟩⟩
theorem je_ifS (hc : PT X c (tTS E G Pb)) (ha : Pb true → PE X a (tE E G R)) (hb : Pb false → PE X b (tE E G R)) : PE X (.IfExp c a b pos) (tE E G R) :=
  PE_imp (pe_ifExp hc (PE_when ha) (PE_when hb)) fun σ H Q ⟨F, S, k⟩ => ⟨F, S, fun b F1 H1 pb g1 => by
    cases b with
    | true =>
      show (Pb true ∧ tE E G R σ H1 Q)
      exact ⟨pb, F1, S.gr g1, fun v F2 H2 g2 u2 => k v F2 H2 (g1.trans g2) u2⟩
    | false =>
      show (Pb false ∧ tE E G R σ H1 Q)
      exact ⟨pb, F1, S.gr g1, fun v F2 H2 g2 u2 => k v F2 H2 (g1.trans g2) u2⟩⟩
/-- what a call with an open argument gives -/
theorem je_openA {Rs Ss : List (V → Hp → Prop)} {r : List V → Hp → VK → Prop} (hm : ∀ x, Mo (Rx x)) (h : ∀ x, P x → RC pp r (Rs ++ Rx x :: Ss) Rz) : RC pp r (Rs ++ Som P Rx :: Ss) Rz := fun vs F H Q ok ar k => by
  have all : ∀ {Rs : List (V → Hp → Prop)} {vs : List V}, Paired (fun R v => Up R v F) (Rs ++ Som P Rx :: Ss) vs → ∃ x, P x ∧ Paired (fun R v => Up R v F) (Rs ++ Rx x :: Ss) vs := by
    intro Rs
    induction Rs with
    | nil =>
      intro vs h
      cases h with
      | cons r t =>
        obtain ⟨x, px, rx⟩ := r.here
        exact ⟨x, px, .cons ((hm x).up rx) t⟩
    | cons R0 Rs ih =>
      intro vs h
      cases h with
      | cons r t =>
        obtain ⟨x, px, t'⟩ := ih t
        exact ⟨x, px, .cons r t'⟩
  obtain ⟨x, px, t⟩ := all ar
  exact h x px vs F H Q ok t k
end
theorem js_retc {X : Cx} {E : En} {G : List Sl} {st : Stmt} {R R' : V → Hp → Prop} {N : List Sl → Prop} (p : PS X st (tS E G (Rn R) N)) (h : ∀ v F, R v F → R' v F) : PS X st (tS E G (Rn R') N) := PS_imp p fun D σ H ⟨F, S, kn, kr⟩ => ⟨F, S, kn, fun v F' H' b r => kr v F' H' b (r.imp fun F q => h v F q)⟩
/-- reading a list that may still turn, where the answer is a new Ratio -/
theorem je_viewQ {X : Cx} {E : En} {G : List Sl} {e : Expr} {i : Nat} {Rm : List V → Hp → Prop} {C : Addr} {q : Rat} (hG : G[i]? = some (.mt Rm)) (p : PE X e (tE E (G.set i (.fz (LstOf Rm))) (IsQ C q))) : PE X e (tE E G (IsQ C q)) := PE_imp p fun σ H Q ⟨F, S, k⟩ => by
  obtain ⟨p, vs, e, h1, h2, h3, h4, S'⟩ := S.freeze hG
  refine ⟨_, S', fun v F2 H2 g u => k v _ H2 (hide_gr S.ok h1 h3 g) (IsQ.up ?_)⟩
  obtain ⟨a, dx, rfl, ha⟩ := u.here
  have hp : F2 p = some (.lst vs) := g.f _ _ upd_same
  have ne : a ≠ p := fun z => by
    rw [z, hp] at ha
    cases ha
  exact ⟨a, dx, rfl, by show (if a = p then none else F2 a) = _; rw [if_neg ne]; exact ha⟩
/-- xs.append(ys.pop(d)), both of this def's own -/
theorem js_appendPop {X : Cx} {E : En} {G : List Sl} {st : Stmt} {α : Type} {Rx : α → V → Hp → Prop} {xs : List α} {i j m : Nat} {Ri : List V → Hp → Prop} {Ri' : α → List V → Hp → Prop} {Rt : V → Hp → Hp → Prop} {K : PySem.W.Frag} (hij : i ≠ j) (h : G[i]? = some (.mt Ri)) (hj : G[j]? = some (.mt (LsOf Rx xs))) (hm : m ≤ xs.length) (hl : xs.length < 1000)
    (p : PS X st (tDrop (tBM K "list" rAppend (tVar i) (tCons (tBM K "list" rPopAt (tVar j) (tCons (tE E G (Som (fun d : Nat => d < m) IsU)) tNil)) tNil))))
    (ha : ∀ x vs v F, Up Ri vs F → Up (Rx x) v F → Up (Ri' x) (vs ++ [v]) F) (hz : ∀ vs F, Ri vs F → vs.length < sizeLine) :
    PS X st (tS E G Rt (fun G' => ∃ d x, xs[d]? = some x ∧ G' = (G.set j (.mt (LsOf Rx (xs.eraseIdx d)))).set i (.mt (Ri' x)))) := PS_imp p fun D σ H ⟨F, S, kn, kr⟩ => by
  obtain ⟨p, vs, e1, h1, h2, h3, h4⟩ := S.mt i Ri h
  obtain ⟨q, ws, f1, k1, k2, k3, k4⟩ := S.mt j _ hj
  refine ⟨.ref p, e1, .inl ⟨rfl, vs, .inl (.inl h3)⟩, .ref q, f1, .inl ⟨rfl, ws, .inl (.inl k3)⟩, F, S, fun dv F1 H1 g1 u1 => ?_⟩
  obtain ⟨d, hd, ed⟩ := u1.here
  have ed : dv = .int (d : Int) := ed
  subst ed
  have S1 := S.gr g1
  obtain ⟨q', ws', f1', k1', k2', k3', k4'⟩ := S1.mt j _ hj
  rw [f1] at f1'
  cases f1'
  have hlen := k4'.here.len
  have hd1 : d < xs.length := by omega
  obtain ⟨v, hv, uv⟩ := k4'.here.get (List.getElem?_eq_getElem hd1)
  have hx : seqIndex? (d : Int) ws'.length = some d := (ixN_seq (gw_ixN (by omega : d < ws'.length))).1
  refine ⟨q, ws', (d : Int), d, v, rfl, rfl, k3', by omega, by omega, hx, hv, ?_⟩
  have er : ∀ {xs : List α} {ws : List V} {d : Nat}, LsOf Rx xs ws F1 → LsOf Rx (xs.eraseIdx d) (ws.eraseIdx d) F1 := by
    intro xs ws d a
    induction a generalizing d with
    | nil => exact .nil
    | cons r t ih =>
      cases d with
      | zero => exact t
      | succ d => exact .cons r ih
  have S2 := S1.turn hj f1 (LsOf.up (er (d := d) k4'.here))
  have h' : (G.set j (.mt (LsOf Rx (xs.eraseIdx d))))[i]? = some (.mt Ri) := by rw [List.getElem?_set_ne (Ne.symm hij)]; exact h
  obtain ⟨p', vs', e1', h1', h2', h3', h4'⟩ := S2.mt i Ri h'
  rw [e1] at e1'
  cases e1'
  refine ⟨p, vs', v, rfl, rfl, h3', hz vs' F1 h4'.here, ?_⟩
  exact kn _ σ F1 _ ⟨d, xs[d], List.getElem?_eq_getElem hd1, rfl⟩ (S2.turn h' e1 (ha xs[d] vs' v F1 h4' uv)) g1.f
section
variable {X : Cx} {E : En} {G : List Sl} {e a b : Expr} {es : List Expr} {R : V → Hp → Prop} {p pos : Pos} {ι α : Type} {Rs : ι → List (V → Hp → Prop)} {pre : ι → Prop} {x : Str} {k : Nat} {ps : List Str} {Rf : ι → V → Hp → Prop} {P : α → Prop} {Rx : α → V → Hp → Prop} {rest : List Expr}
/-- f(pot, a) where a is not known -/
theorem jcPS (T : Kn X.prog X.w X.K X.mg X.base x k ps (PrP Rs pre Rf)) (hr : Room k X.A) (hpot : ∃ i : Nat, G[i]? = some .pot) (w : α → ι) (ha : PA X (e :: es) (tAP E G [Som P Rx])) (hw : ∀ x, Rs (w x) = [Rx x]) (hm : ∀ x, Mo (Rx x)) (hp : ∀ x, P x → pre (w x)) (hR : ∀ x, P x → ∀ v F, Rf (w x) v F → R v F) (hg : Gl X x := by rfl) (hdb : (x == ("__debug__" : Str)) = false := by decide)
    (he : starEach (e :: es) X.env = (false, eval e X.env) :: starEach es X.env := by rfl) (hpl : (backTo pos (starEach es X.env)).any (·.1) = false := by rfl) : PE X (.Call (.Name x p) (e :: es) [] pos) (tE E G R) := by
  obtain ⟨f, fd, g, kp, b, ok⟩ := T
  refine PE_imp (pe_call (E := E0) ok hr hg g kp b .nil pass0 ha hdb he hpl) fun σ H Q ⟨F, S, k⟩ => ?_
  obtain ⟨i, hi⟩ := hpot
  obtain ⟨q, _, hq⟩ := S.pt i hi
  refine ⟨F, q, S, hq, fun vs F1 H1 g1 a => ?_⟩
  cases a with
  | cons r t =>
    cases t
    obtain ⟨y, py, ry⟩ := r.here
    refine ⟨F1, q, [_], w y, by rw [List.append_nil], by rw [← hq]; exact g1.ok, by rw [hw]; exact .cons ((hm y).up ry) .nil, hp y py, fun v F2 H2 g2 u => k v F2 H2 (g1.trans (by rw [hq]; exact g2)) (u.imp fun F z => hR y py v F z)⟩
/-- f(a) where a is not known -/
theorem jcS (T : Kn X.prog X.w X.K X.mg X.base x k ps (Pr Rs pre Rf)) (hr : Room k X.A) (w : α → ι) (ha : PA X (e :: es) (tA E G [Som P Rx])) (hw : ∀ x, Rs (w x) = [Rx x]) (hm : ∀ x, Mo (Rx x)) (hp : ∀ x, P x → pre (w x)) (hR : ∀ x, P x → ∀ v F, Rf (w x) v F → R v F) (hg : Gl X x := by rfl) (hdb : (x == ("__debug__" : Str)) = false := by decide)
    (he : starEach (e :: es) X.env = (false, eval e X.env) :: starEach es X.env := by rfl) (hpl : (backTo pos (starEach es X.env)).any (·.1) = false := by rfl) : PE X (.Call (.Name x p) (e :: es) [] pos) (tE E G R) := by
  obtain ⟨f, fd, g, kp, b, ok⟩ := T
  refine PE_imp (pe_call (E := E0) ok hr hg g kp b .nil pass0 ha hdb he hpl) fun σ H Q ⟨F, S, k⟩ => ?_
  refine ⟨F, S, fun vs F1 H1 g1 a => ?_⟩
  cases a with
  | cons r t =>
    cases t
    obtain ⟨y, py, ry⟩ := r.here
    exact ⟨F1, w y, g1.ok.none, by rw [hw, List.append_nil]; exact .cons ((hm y).up ry) .nil, hp y py, fun v F2 H2 g2 u => k v F2 H2 (g1.trans (g2.lift g1.ok)) (u.imp fun F z => hR y py v F z)⟩
/-- a and b, where b's answer is not known -/
theorem jwS_and1 {Pb : Bool → Prop} (p : PT X a (tTS E G Pb)) : PW X (.BoolOp .And [a] pos) (tTS E G Pb) := pw_and1 p
theorem jwS_and {b1 : Bool} {Pb : Bool → Prop} (p : PT X a (tT E G b1)) (q : b1 = true → PW X (.BoolOp .And (b :: rest) pos) (tTS E G Pb)) (h : b1 = false → Pb false) : PW X (.BoolOp .And (a :: b :: rest) pos) (tTS E G Pb) :=
  PW_imp (pw_and p (PW_when q)) fun σ H Q ⟨F, S, k⟩ => ⟨F, S, fun F1 H1 g1 => by
    cases b1 with
    | true =>
      show (true = true ∧ tTS E G Pb σ H1 Q)
      exact ⟨rfl, F1, S.gr g1, fun c F2 H2 pc g2 => k c F2 H2 pc (g1.trans g2)⟩
    | false =>
      show Q false H1
      exact k false F1 H1 (h rfl) g1⟩
end
/-- xs, a = new list, value: through the pair, as cells are stored -/
theorem js_asgMF {X : Cx} {E : En} {G : List Sl} {st : Stmt} {Rb : V → Hp → Prop} {Rm : List V → Hp → Prop} {Rt : V → Hp → Hp → Prop} {K : PySem.W.Frag} {i j : Nat} (hij : i ≠ j) (p : PS X st (tAsg (tTup (tCons (tM E G Rm) (tCons (tE E G Rb) tNil))) (gTup K 2 (gCons (gName i) (gCons (gName j) gNil))))) : PS X st (tS E G Rt (· = (G.set i (.mt Rm)).set j (.fz Rb))) := PS_imp p fun D σ H ⟨F, S, kn, kr⟩ =>
  ⟨F, S, fun q ws F1 H1 g1 n1 n2 n3 u1 => ⟨F1, S.gr g1, fun w F2 H2 g2 u2 => ⟨by show 2 ≤ sizeLine; decide, fun t ht => by
    have g3 := Gr.raw (o := HO.tup [.ref q, w]) g2.ok ht
    have np : E.pp ≠ some q := fun z => by
      obtain ⟨_, x, y, h2, _⟩ := S.ok.p q z
      rw [n1] at h2
      cases h2
    have f2 : F2 q = none := by
      cases z : F2 q with
      | none => rfl
      | some o =>
        rcases g2.n q o z with w | w
        · rw [n2] at w; cases w
        · rw [n3] at w; cases w
    have h2q := g2.k q _ n3 np
    have qt : q ≠ t := ne_of_none h2q ht
    refine ⟨t, [.ref q, w], rfl, .inl (.inl upd_same), rfl, _, _, rfl, _, _, rfl, rfl, ?_⟩
    have S1 := (S.gr ((g1.trans g2).trans g3)).set_mt (i := i) f2 (S.bs.back n1) (by rw [upd_ne qt]; exact h2q) (u1.mono g2.f) fun k Rk hk hG hs => fresh_mt S n1 hG hs
    exact kn _ _ F2 _ rfl (S1.set_fz u2) (g1.trans g2).f⟩⟩⟩
theorem ints_isU {ms : List Nat} {vs : List V} {F : Hp} (h : LsOf IsI (ms.map fun (n : Nat) => (n : Int)) vs F) : LsOf IsU ms vs F := by
  induction ms generalizing vs with
  | nil => cases h; exact .nil
  | cons m ms ih =>
    cases h with
    | cons r t => exact .cons r (ih t)
end Gw
set_option maxHeartbeats 4000000
namespace Gw
open PySem PySem.Spec PyProof.Rows L2
section
variable {P : Program} {w : World} {K : PySem.W.Frag} {mg : Str → Option Value} {base : Heap} {C : Addr}
/-! ### the law's pot, at the bare layer -/
def spDraw : Sp := fun vs H Q _ => ∃ (q : Addr) (x y z : Int), vs = [.ref q, .int z] ∧ H q = some (.lst [.int x, .int y]) ∧ 0 ≤ x ∧ 0 ≤ y ∧ y < 2 ^ 40 ∧ 0 < z ∧ z < 2 ^ 30 ∧
  ∀ (d x' y' : Int) (H' : Hp), 0 ≤ d → d < z → 0 ≤ x' → 0 ≤ y' → y' < 2 ^ 40 → H' q = some (.lst [.int x', .int y']) → (∀ a o, a ≠ q → H a = some o → H' a = some o) → Q (.int d) H'
theorem ok_draw0 (Z : Glo K mg C) {f : Addr} {fd : FuncData} (Fd : FnP K "_law_draw" st__law_draw f fd) : FnOk P w K mg base CX0 1 f fd ["pot", "size"] spDraw := by
  refine Fd.ok sc__law_draw (fun vs H Q E h => ?_) (fun cdv A outer s H vs Q E hr h => ?_)
  · obtain ⟨q, x, y, z, rfl, _⟩ := h
    rfl
  · have nd := sc__law_draw.nd
    refine ⟨_, PSs.nox (pss_cons (ps_if (pt_cmpR op_gt (pe_ix ix_list (pv 0) pe_int (fun _ _ => rfl)) pe_int (nomark _)) (pss_cons (ps_asg (pe_callB call_divmod rfl Z.divmod boot_divmod (pa_cons (pe_ix ix_list (pv 0) pe_int (fun _ _ => rfl)) (pa_cons (pv 1) pa_nil))) (pg_tup rfl (pgs_cons (pg_sub (pv 0) pe_int set_list) (pgs_cons (gN 2 nd) pgs_nil)))) (pss_one (ps_ret (pv 2)))) pss_nil)
      (pss_cons (ps_asg (pe_op op_mod (pe_callTy call_int1 rfl Z.int boot_int (pa_cons (pe_op op_add (pe_op op_mulW (pe_ix ix_list (pv 0) pe_int (fun _ _ => rfl)) pe_int) pe_int) pa_nil)) pe_int) (pg_sub (pv 0) pe_int set_list))
        (pss_one (ps_ret (pe_op op_mod (pe_callTy call_int1 rfl Z.int boot_int (pa_cons (pe_op op_fdiv (pe_op op_mod (pe_callTy call_int1 rfl Z.int boot_int (pa_cons (pe_op op_mulW (pe_ix ix_list (pv 0) pe_int (fun _ _ => rfl)) (pe_ix ix_list (pv 0) pe_int (fun _ _ => rfl))) pa_nil)) pe_int) pe_int) pa_nil)) (pv 1)))))), ?_⟩
    obtain ⟨q, x, y, z, rfl, hq, hx, hy, hy2, hz, hz2, kq⟩ := h
    have h0 : atI [V.int x, V.int y] 0 = some (.int x) := rfl
    have h1 : atI [V.int x, V.int y] 1 = some (.int y) := rfl
    refine ⟨_, rfl, q, [.int x, .int y], 0, .int x, rfl, rfl, .inl (.inl hq), h0, x, 0, rfl, rfl, decide (0 < x), rfl, ?_⟩
    by_cases hx0 : 0 < x
    · rw [decide_eq_true hx0]
      show (if true = true then _ else _)
      rw [if_pos rfl]
      refine ⟨_, rfl, q, [.int x, .int y], 0, .int x, rfl, rfl, .inl (.inl hq), h0, _, rfl, x, z, rfl, ⟨hz, hz2⟩, fun p hp => ?_⟩
      have ne : q ≠ p := ne_of_none hq hp
      refine ⟨p, _, rfl, .inl (.inl upd_same), rfl, _, _, rfl, _, rfl, q, [.int x, .int y], 0, 0, rfl, rfl, by rw [upd_ne ne]; exact hq, rfl, _, _, rfl, rfl, _, rfl, ?_⟩
      refine kq (x % z) (x / z) y _ (Int.emod_nonneg _ (by omega)) (Int.emod_lt_of_pos _ hz) (Int.ediv_nonneg hx (by omega)) hy hy2 (by rw [upd_same]; rfl) (fun a o ha h => ?_)
      rw [upd_ne ha, upd_ne (ne_of_none h hp)]
      exact h
    · rw [decide_eq_false hx0]
      show (if false = true then _ else _)
      rw [if_neg (by decide)]
      have m0 : (0 : Int) ≤ (y * 40543 + 31069) % 2147483549 := Int.emod_nonneg _ (by decide)
      have m1 : (y * 40543 + 31069) % 2147483549 < 2147483549 := Int.emod_lt_of_pos _ (by decide)
      refine ⟨_, rfl, q, [.int x, .int y], 1, .int y, rfl, rfl, .inl (.inl hq), h1, y, 40543, rfl, rfl, mulW_of (n := 40) (m := 40) (by omega) (by decide) (by decide) (by decide) (by decide), _, _, rfl, rfl, .inl ⟨_, rfl, _, _, rfl, rfl, (by show (0 : Int) < 2147483549; decide), ?_⟩⟩
      refine ⟨_, rfl, q, [.int x, .int y], 1, 1, rfl, rfl, hq, rfl, ?_⟩
      obtain ⟨y2, he⟩ : ∃ y2, y2 = (y * 40543 + 31069) % 2147483549 := ⟨_, rfl⟩
      rw [← he] at m0 m1
      have g0 : atI [V.int x, V.int y2] 1 = some (.int y2) := rfl
      have gq : ∀ o, o = [V.int x, V.int y2] → (upd H q (.lst o)) q = some (.lst [V.int x, V.int y2]) := fun o e => by rw [e, upd_same]
      have n0 : (0 : Int) ≤ (y2 * y2) % 2147483543 / 23 := Int.ediv_nonneg (Int.emod_nonneg _ (by decide)) (by decide)
      refine ⟨_, rfl, q, [.int x, .int y2], 1, .int y2, rfl, rfl, .inl (.inl (gq _ (by rw [he]; rfl))), g0, _, rfl, q, [.int x, .int y2], 1, .int y2, rfl, rfl, .inl (.inl (gq _ (by rw [he]; rfl))), g0, y2, y2, rfl, rfl, mulW_of (n := 40) (m := 40) (by omega) (by omega) (by decide) (by decide) (by decide), .inl ⟨_, rfl, _, _, rfl, rfl, (by show (0 : Int) < 2147483543; decide), _, _, rfl, rfl, ⟨by decide, by decide⟩, .inl ⟨_, rfl, _, rfl, _, _, rfl, rfl, hz, ?_⟩⟩⟩
      exact kq _ x y2 _ (Int.emod_nonneg _ (by omega)) (Int.emod_lt_of_pos _ hz) hx m0 (by omega) (gq _ (by rw [he]; rfl)) (fun a o ha h => by rw [upd_ne ha]; exact h)
abbrev sp__law_draw (_ : Addr) : Sp := PrP (ι := Nat) (fun n => [IsU n]) (fun n => 0 < n ∧ n < 1000) (fun n => Som (fun d : Nat => d < n) IsU)
theorem ok__law_draw (Z : Glo K mg C) {f : Addr} {fd : FuncData} (Fd : FnP K "_law_draw" st__law_draw f fd) : FnOk P w K mg base CX0 1 f fd ["pot", "size"] (sp__law_draw C) := by
  refine (ok_draw0 Z Fd).imp fun vs H Q E h => ?_
  obtain ⟨F, q, us, n, rfl, ok, a, ⟨hn, hn2⟩, kq⟩ := h
  cases a with
  | cons r t =>
    cases t
    obtain ⟨hF, x, y, hq, hx, hy, hy2⟩ := ok.p q rfl
    refine ⟨q, x, y, n, by rw [show _ = V.int (n : Int) from r.here], hq, hx, hy, hy2, by omega, by omega, fun d x' y' H' h1 h2 h3 h4 h5 h6 h7 => ?_⟩
    refine kq (.int d) F H' ?_ (fun F' _ => ⟨d.toNat, by omega, by show V.int d = V.int ((d.toNat : Nat) : Int); congr 1; omega⟩)
    exact {
      f := Ex.refl F
      s := fun a o h => h7 a o (fun e => by rw [e, hF] at h; cases h) (ok.s a o h)
      k := fun a o h hp => h7 a o (fun e => hp (by rw [e])) h
      n := fun a o h => .inl h
      p := fun a ha => by
        cases ha
        exact ⟨hF, x', y', h6, h3, h4, h5⟩ }
abbrev Kn__law_draw (P : Program) (w : World) (K : PySem.W.Frag) (mg : Str → Option Value) (base : Heap) (C : Addr) : Prop := Kn P w K mg base "_law_draw" 1 ["pot", "size"] (sp__law_draw C)
/-! ### the script -/
def IsScr (K : PySem.W.Frag) (ns : List Int) (v : V) (F : Hp) : Prop := ∃ a, v = .ref a ∧ SqL K F a (ns.map V.int)
theorem sql_ex {K : PySem.W.Frag} {F F' : Hp} {a : Addr} {xs : List V} (h : SqL K F a xs) (e : Ex F F') : SqL K F' a xs := by
  rcases h with h | h
  · rcases h with h | ⟨o, h⟩
    · exact .inl (.inl (e _ _ h))
    · exact .inl (.inr ⟨o, e _ _ h⟩)
  · exact .inr h
theorem rc_lenScr {K : PySem.W.Frag} {pp : Option Addr} {ns : List Int} : RC pp (fun us H Q => ∃ x n, us = [x] ∧ LenV K x H n ∧ Q (.int n) H) [IsScr K ns] (IsI (ns.length : Int)) := fun vs F H Q ok a k => by
  cases a with
  | cons r t =>
    cases t
    obtain ⟨p, rfl, h⟩ := r.here
    exact ⟨_, ns.length, rfl, .inl ⟨_, sql_ex h ok.s, by rw [List.length_map]⟩, k _ F H ok.gr fun F' _ => rfl⟩
theorem rop_ixScr {K : PySem.W.Frag} {pp : Option Addr} {ns : List Int} {j : Nat} (h : j < ns.length) : ROp pp (rIxL K) (IsScr K ns) (IsI (j : Int)) (IsI ns[j]!) := fun x y F H Q ok u1 u2 k => by
  obtain ⟨p, rfl, hs⟩ := u1.here
  rw [u2.here]
  exact ⟨p, _, _, .int ns[j]!, rfl, rfl, sql_ex hs ok.s, atI_nat (by rw [List.getElem?_map, List.getElem?_eq_getElem h, getElem!_pos ns j h]; rfl), k _ F H ok.gr fun F' _ => rfl⟩
theorem rop_pow {pp : Option Addr} {i j : Int} (h : CPow i j) : ROp pp (rI CPow fun i j => .int (i ^ j.toNat)) (IsI i) (IsI j) (IsI (i ^ j.toNat)) := rop_C h fun _ => rfl
def PotV (vs : List V) (_ : Hp) : Prop := ∃ x y : Int, vs = [.int x, .int y] ∧ 0 ≤ x ∧ 0 ≤ y ∧ y < 2 ^ 40
abbrev sp__law_pot (K : PySem.W.Frag) : Sp := PrM (ι := List Int) (fun ns => [IsScr K ns, IsI 0]) (fun _ => True) (fun _ => PotV)
theorem ok__law_pot (Z : Glo K mg C) {f : Addr} {fd : FuncData} (Fd : FnP K "_law_pot" st__law_pot f fd) : FnOk P w K mg base CX0 1 f fd ["script", "k"] (sp__law_pot K) := by
  refine fn_prM Fd sc__law_pot (fun u => rfl) (fun X u E hX hp hE => ?_)
  obtain ⟨cdv, A, outer, s, H, E', rfl, hr⟩ := hX
  refine PSs.nox ?_
  have nd := sc__law_pot.nd
  rename List Int => ns
  refine js_seq (js_set (R := Som (fun c : Int => 0 ≤ c) IsI) (ps_set (i := 2) nd rfl (.inl rfl) (je_if (b1 := decide ((0 : Int) < (ns.length : Int))) (jt_cmp (pt_cmpR op_lt (jv 1 (R := IsI 0)) (jbB call_len Z.len boot_len (ja_cons (jv 0 (R := IsScr K ns)) ja_nil) rc_lenScr) (nomark _)) rop_lt) (fun h => je_conv (jbB call_abs Z.abs boot_abs (ja_cons (je_op (pe_ix ix_list (jv 0 (R := IsScr K ns)) (jv 1 (R := IsI ((0 : Nat) : Int))) (fun _ _ => rfl)) (rop_ixScr ?_)) ja_nil) rc_abs) (fun v F h => ⟨_, ?_, h⟩)) (fun h => je_conv (je_op (pe_op op_add (je_op (pe_op op_mulW jI (jv 1 (R := IsI 0))) (rop_mulW (mulW_of (n := 20) (m := 20) (by decide) (by decide) (by decide) (by decide) (by decide)))) jI) rop_add) (fun v F h => ⟨_, ?_, h⟩))))) ?_
  · have h := of_decide_eq_true h
    omega
  · split <;> omega
  · decide
  refine js_open (i := 2) (P := fun c : Int => 0 ≤ c) (R := IsI) rfl (fun _ _ _ _ h _ => h) (fun c hc => ?_)
  have m0 : (0 : Int) ≤ c % 2147483543 := Int.emod_nonneg _ (by decide)
  have m1 : c % 2147483543 < 2147483543 := Int.emod_lt_of_pos _ (by decide)
  refine js_one (js_retM (jm_conv (jm_lst (Rs := [IsI (if c - 10 ^ 18 > 0 then c - 10 ^ 18 else 0), IsI ((c % 2147483543 * 41203 + 6871 * 0 + 617) % 2147483549 + 1)]) (pe_lst (ja_cons (jbB (call_max2 rfl) Z.max boot_max (ja_cons jI (ja_cons (je_op (pe_op op_sub (jv 2 (R := IsI c)) (je_eq (je_op (pe_op op_pow jI jI) (rop_pow (i := 10) (j := 18) ⟨by decide, by decide, by decide⟩)) (R' := IsI (10 ^ 18)) rfl)) rop_sub) ja_nil)) rc_max2) (ja_cons (je_op (pe_op op_add (je_op (pe_op op_mod (jbT call_int1 Z.int boot_int (ja_cons (je_op (pe_op op_add (je_op (pe_op op_add (je_op (pe_op op_mulW (je_op (pe_op op_mod (jbT call_int1 Z.int boot_int (ja_cons (jv 2 (R := IsI c)) ja_nil) rc_intI) jI) (rop_mod (by decide))) jI) (rop_mulW ?_)) (je_op (pe_op op_mulW jI (jv 1 (R := IsI 0))) (rop_mulW (mulW_of (n := 20) (m := 20) (by decide) (by decide) (by decide) (by decide) (by decide))))) rop_add) jI) rop_add) ja_nil) rc_intI) jI) (rop_mod (by decide))) jI) rop_add) ja_nil)))) (fun vs F a => ?_)))
  · exact mulW_of (n := 40) (m := 40) (by omega) (by decide) (by decide) (by decide) (by decide)
  · cases a with
    | cons r t =>
      cases t with
      | cons r2 t2 =>
        cases t2
        have n0 : (0 : Int) ≤ (c % 2147483543 * 41203 + 6871 * 0 + 617) % 2147483549 := Int.emod_nonneg _ (by decide)
        have n1 : (c % 2147483543 * 41203 + 6871 * 0 + 617) % 2147483549 < 2147483549 := Int.emod_lt_of_pos _ (by decide)
        refine ⟨_, _, by rw [show _ = V.int _ from r.here, show _ = V.int _ from r2.here], ?_, by omega, by omega⟩
        split <;> omega
/-! ### picks -/
def PickK (Rs : List (V → Hp → Prop)) (v : V) (F : Hp) : Prop := ∃ R, R ∈ Rs ∧ R v F
abbrev sp__law_pick (_ : Addr) : Sp := PrP (ι := Bool × List (V → Hp → Prop)) (fun w => [if w.1 then LstOf (Args w.2) else TupOf (Args w.2)]) (fun w => 0 < w.2.length ∧ w.2.length < 1000 ∧ ∀ R ∈ w.2, Mo R) (fun w => PickK w.2)
theorem pick_at {Rs : List (V → Hp → Prop)} {vs : List V} {F : Hp} {d : Nat} (a : Args Rs vs F) (h : d < Rs.length) : ∃ v, vs[d]? = some v ∧ PickK Rs v F := by
  obtain ⟨v, hv, u⟩ := Args.get a (List.getElem?_eq_getElem h)
  exact ⟨v, hv, Rs[d], List.getElem_mem h, u.here⟩
theorem mo_pick {Rs : List (V → Hp → Prop)} (h : ∀ R ∈ Rs, Mo R) : Mo (PickK Rs) := fun v F F' ⟨R, hR, r⟩ e => ⟨R, hR, h R hR v F F' r e⟩
theorem rop_pickL {K : PySem.W.Frag} {pp : Option Addr} {Rs : List (V → Hp → Prop)} (hm : ∀ R ∈ Rs, Mo R) : ROp pp (rIxL K) (LstOf (Args Rs)) (Som (fun d : Nat => d < Rs.length) IsU) (PickK Rs) := fun x y F H Q ok u1 u2 k => by
  obtain ⟨p, vs, rfl, hp, u⟩ := u1.here
  obtain ⟨d, hd, e⟩ := u2.here
  obtain ⟨v, hv, pk⟩ := pick_at u.here hd
  rw [show _ = V.int (d : Int) from e]
  exact ⟨p, vs, d, v, rfl, rfl, .inl (.inl (ok.s _ _ hp)), atI_nat hv, k v F H ok.gr ((mo_pick hm).up pk)⟩
theorem rop_pickT {K : PySem.W.Frag} {pp : Option Addr} {Rs : List (V → Hp → Prop)} (hm : ∀ R ∈ Rs, Mo R) : ROp pp (rIxT K) (TupOf (Args Rs)) (Som (fun d : Nat => d < Rs.length) IsU) (PickK Rs) := fun x y F H Q ok u1 u2 k => by
  obtain ⟨p, vs, rfl, hp, u⟩ := u1.here
  obtain ⟨d, hd, e⟩ := u2.here
  obtain ⟨v, hv, pk⟩ := pick_at u.here hd
  rw [show _ = V.int (d : Int) from e]
  exact ⟨p, vs, d, v, rfl, rfl, .inl (.inl (ok.s _ _ hp)), atI_nat hv, k v F H ok.gr ((mo_pick hm).up pk)⟩
theorem rc_lenAr {K : PySem.W.Frag} {pp : Option Addr} {Rs : List (V → Hp → Prop)} : RC pp (fun us H Q => ∃ x n, us = [x] ∧ LenV K x H n ∧ Q (.int n) H) [LstOf (Args Rs)] (IsU Rs.length) := fun vs F H Q ok a k => by
  cases a with
  | cons r t =>
    cases t
    obtain ⟨p, ws, rfl, hp, u⟩ := r.here
    exact ⟨_, Rs.length, rfl, .inl ⟨_, .inl (.inl (ok.s _ _ hp)), u.here.len⟩, k _ F H ok.gr fun F' _ => rfl⟩
abbrev Kn__law_pick (P : Program) (w : World) (K : PySem.W.Frag) (mg : Str → Option Value) (base : Heap) (C : Addr) : Prop := Kn P w K mg base "_law_pick" 2 ["pot", "some"] (sp__law_pick C)
theorem ok__law_pick (Z : Glo K mg C) (k__law_draw : Kn__law_draw P w K mg base C) {f : Addr} {fd : FuncData} (Fd : FnP K "_law_pick" st__law_pick f fd) : FnOk P w K mg base CX0 2 f fd ["pot", "some"] (sp__law_pick C) := by
  refine fn_prP Fd sc__law_pick (fun u => by first | rfl | (cases u <;> rfl)) (by decide) (fun X u E hX hp => ?_)
  obtain ⟨cdv, A, outer, s, H, E', rfl, hr⟩ := hX
  refine PSs.nox ?_
  have nd := (sc__law_pick).nd
  replace hr : Room 1 (cxOf CX0 P w K mg base N__law_pick "_law_pick" (defScope st__law_pick) f cdv A outer s H E').nox.A := hr
  obtain ⟨b, Rs⟩ := u
  obtain ⟨h0, h1, hm⟩ := hp
  have h0 : 0 < Rs.length := h0
  have h1 : Rs.length < 1000 := h1
  have hm : ∀ R ∈ Rs, Mo R := hm
  cases b with
  | true => exact js_one (js_ret (je_op (pe_ix ix_list (jv 1 (R := LstOf (Args Rs))) (jcP k__law_draw hr ⟨0, rfl⟩ Rs.length (ja_pot (pv 0) rfl (ja_cons (jbB call_len Z.len boot_len (ja_cons (jv 1 (R := LstOf (Args Rs))) ja_nil) rc_lenAr) ja_nil)) ⟨h0, h1⟩) (fun _ _ => rfl)) (rop_pickL hm)))
  | false => exact js_one (js_ret (je_op (pe_ix ix_tup (jv 1 (R := TupOf (Args Rs))) (jcP k__law_draw hr ⟨0, rfl⟩ Rs.length (ja_pot (pv 0) rfl (ja_cons (jbB call_len Z.len boot_len (ja_cons (jv 1 (R := TupOf (Args Rs))) ja_nil) rc_lenTp) ja_nil)) ⟨h0, h1⟩) (fun _ _ => rfl)) (rop_pickT hm)))
end
end Gw
set_option maxHeartbeats 4000000
namespace Gw
open PySem PySem.Spec PyProof.Rows L2
def sumN (xs : List Nat) : Int := (xs.map fun (n : Nat) => (n : Int)).sum
/-- a drawn row, as Ratios -/
def rowQ (xs : List Nat) : List Rat := xs.map fun (x : Nat) => Rat.divInt (x : Int) (sumN xs)
structure DrR (n : Nat) (xs : List Nat) : Prop where
  l : xs.length = n
  le : ∀ x ∈ xs, x ≤ 2
  s : sumN xs ≠ 0
theorem sumN_le {xs : List Nat} (h : ∀ x ∈ xs, x ≤ 2) : 0 ≤ sumN xs ∧ sumN xs ≤ 2 * xs.length := by
  unfold sumN
  induction xs with
  | nil => simp
  | cons x xs ih =>
    have h1 := ih (fun y hy => h y (by simp [hy]))
    have h2 := h x (by simp)
    rw [List.map_cons, List.sum_cons, List.length_cons]
    constructor <;> omega
theorem sumN_mem {xs : List Nat} {x : Nat} (h : x ∈ xs) : (x : Int) ≤ sumN xs := by
  unfold sumN
  induction xs with
  | nil => simp at h
  | cons y ys ih =>
    rw [List.map_cons, List.sum_cons]
    have h0 : ∀ l : List Nat, (0 : Int) ≤ (l.map fun (n : Nat) => (n : Int)).sum := by
      intro l
      induction l with
      | nil => simp
      | cons a l ih => rw [List.map_cons, List.sum_cons]; omega
    have := h0 ys
    rcases List.mem_cons.mp h with e | e
    · subst e; omega
    · have := ih e; omega
section
variable {P : Program} {w : World} {K : PySem.W.Frag} {mg : Str → Option Value} {base : Heap} {C : Addr}
abbrev sp__law_weights (_ : Addr) : Sp := PrP (ι := Nat) (fun n => [IsU n]) (fun n => n ≤ 10) (fun n => Som (fun ws : List Nat => ws.length = n ∧ ∀ x ∈ ws, 1 ≤ x ∧ x ≤ 4) (fun ws => IsL IsU ws))
abbrev Kn__law_weights (P : Program) (w : World) (K : PySem.W.Frag) (mg : Str → Option Value) (base : Heap) (C : Addr) : Prop := Kn P w K mg base "_law_weights" 2 ["pot", "places"] (sp__law_weights C)
theorem ok__law_weights (Z : Glo K mg C) (k__law_draw : Kn__law_draw P w K mg base C) {f : Addr} {fd : FuncData} (Fd : FnP K "_law_weights" st__law_weights f fd) : FnOk P w K mg base CX0 2 f fd ["pot", "places"] (sp__law_weights C) := by
  refine fn_prP Fd sc__law_weights (fun u => by first | rfl | (cases u <;> rfl)) (by decide) (fun X u E hX hp => ?_)
  obtain ⟨cdv, A, outer, s, H, E', rfl, hr⟩ := hX
  refine PSs.nox ?_
  have nd := (sc__law_weights).nd
  replace hr : Room 1 (cxOf CX0 P w K mg base N__law_weights "_law_weights" (defScope st__law_weights) f cdv A outer s H E').nox.A := hr
  rename Nat => n
  have hp : n ≤ 10 := hp
  refine js_seq (js_setM (Rm := SomM (fun ws : List Nat => ws.length = 0 ∧ ∀ x ∈ ws, 1 ≤ x ∧ x ≤ 4) (LsOf IsU)) (ps_set (i := 2) nd rfl (.inl rfl) (jm_conv (jm_ls (R := IsU) [] (jm_lst (pe_lst ja_nil))) (fun vs F h => ⟨[], ⟨rfl, fun x h => by simp at h⟩, h⟩)))) ?_
  refine js_cons (N1 := fun G => ∃ s, G = [.pot, .fz (IsU n), .mt (SomM (fun ws : List Nat => ws.length = n ∧ ∀ x ∈ ws, 1 ≤ x ∧ x ≤ 4) (LsOf IsU)), s]) (js_for PassesOwn.never rfl (ji_rangeN (n := n) (by omega) (pi_range1 rfl Z.range (ja_cons (jv 1 (R := IsU n)) ja_nil))) (fun x => jg1 3 nd) (fun i G => ∃ s, G = [.pot, .fz (IsU n), .mt (SomM (fun ws : List Nat => ws.length = i ∧ ∀ x ∈ ws, 1 ≤ x ∧ x ≤ 4) (LsOf IsU)), s]) ⟨_, rfl⟩ ?_ (fun G1 h => by rwa [List.length_range] at h)) ?_
  · rintro i p G1 hi ⟨s, rfl⟩
    have hin : i < n := by have := (List.getElem?_eq_some_iff.mp hi).1; simpa using this
    refine js_one (js_N (js_append (i := 2) (R := Som (fun d : Nat => 1 ≤ d ∧ d ≤ 4) IsU) (Rm' := SomM (fun ws : List Nat => ws.length = i + 1 ∧ ∀ x ∈ ws, 1 ≤ x ∧ x ≤ 4) (LsOf IsU)) (ps_expr (pe_bm PySem.F.plainAttrs_list PySem.F.slot_list_append PySem.F.type_list_append mt_append (pv 2) (pa_cons (je_op (pe_op op_add jI (jcP k__law_draw hr ⟨0, rfl⟩ 4 (ja_pot (pv 0) rfl (ja_cons jI ja_nil)) ⟨by decide, by decide⟩)) (rop_somR (fun _ => mo_I) fun d hd => rop_to rop_add fun v F h => ⟨1 + d, ⟨by omega, by have : d < 4 := hd; omega⟩, by rw [h]; show V.int _ = V.int _; congr 1⟩)) pa_nil))) rfl (fun vs v F a b => ?_) (fun vs F a => ?_)) ?_)
    · obtain ⟨ws, ⟨h1, h2⟩, h3⟩ := a.here
      obtain ⟨d, hd, e⟩ := b.here
      refine fun F' e' => ⟨ws ++ [d], ⟨by rw [List.length_append, h1]; rfl, fun x hx => ?_⟩, (h3.snoc (fun _ _ => e)).up F' e'⟩
      rcases List.mem_append.mp hx with q | q
      · exact h2 x q
      · have : x = d := by simpa using q
        rw [this]; exact hd
    · obtain ⟨ws, ⟨h1, h2⟩, h3⟩ := a
      rw [← h3.len, h1]
      exact line_of (m := 1000) (by omega)
    · rintro G' rfl
      exact ⟨_, rfl⟩
  · rintro _ ⟨s, rfl⟩
    refine js_openM (i := 2) rfl (fun x vs F F' h e => h.up F' e) (fun ws hw => ?_)
    exact js_one (js_retc (js_retV (pv 2) rfl) fun v F h => ⟨ws, hw, h⟩)
abbrev sp__law_proposal (C : Addr) : Sp := PrPM (ι := Nat) (fun n => [IsU n]) (fun n => 1 ≤ n ∧ n ≤ 10) (fun n => SomM (fun A : List (List Nat) => A.length = n ∧ ∀ r ∈ A, DrR n r) (fun A => LsOf (IsL (IsQ C)) (A.map rowQ)))
abbrev Kn__law_proposal (P : Program) (w : World) (K : PySem.W.Frag) (mg : Str → Option Value) (base : Heap) (C : Addr) : Prop := Kn P w K mg base "_law_proposal" 4 ["pot", "places"] (sp__law_proposal C)
theorem ok__law_proposal (Z : Glo K mg C) (k__law_draw : Kn__law_draw P w K mg base C) (mk : Mkr P w K mg base C 2) {f : Addr} {fd : FuncData} (Fd : FnP K "_law_proposal" st__law_proposal f fd) : FnOk P w K mg base CX0 4 f fd ["pot", "places"] (sp__law_proposal C) := by
  refine fn_prPM Fd sc__law_proposal (fun u => by first | rfl | (cases u <;> rfl)) (by decide) (fun X u E hX hp => ?_)
  obtain ⟨cdv, A, outer, s, H, E', rfl, hr⟩ := hX
  refine PSs.nox ?_
  have nd := (sc__law_proposal).nd
  replace hr : Room 3 (cxOf CX0 P w K mg base N__law_proposal "_law_proposal" (defScope st__law_proposal) f cdv A outer s H E').nox.A := hr
  rename Nat => n
  have hn1 : 1 ≤ n := hp.1
  have hn : n ≤ 10 := hp.2
  refine js_seq (js_parMF (i := 2) (j := 3) (Rm := SomM (fun A : List (List Nat) => A.length = 0 ∧ ∀ r ∈ A, DrR n r) (fun A => LsOf (IsL (IsQ C)) (A.map rowQ))) (Rb := Som (fun l : Nat => l = 0 ∨ l = 1) IsU) (by decide) (ps_par (i := 2) (j := 3) rfl nd rfl rfl (by decide) rfl rfl (pa_cons (jm_conv (jm_ls (R := IsL (IsQ C)) [] (jm_lst (pe_lst ja_nil))) (fun vs F h => ⟨[], ⟨rfl, fun x h => by simp at h⟩, h⟩)) (pa_cons (je_ifS (Pb := fun _ => True) (jts_cmp (pt_cmpR op_eq (jcP k__law_draw (hr.mono (by decide)) ⟨0, rfl⟩ 4 (ja_pot (pv 0) rfl (ja_cons jI ja_nil)) ⟨by decide, by decide⟩) jI (nomark _)) (rop_somL (fun _ => mo_I) fun d _ => rop_to rop_eqI fun v F h => ⟨_, trivial, h⟩)) (fun _ => je_conv jI (fun v F h => ⟨0, .inl rfl, h⟩)) (fun _ => je_conv jI (fun v F h => ⟨1, .inr rfl, h⟩))) pa_nil)) rfl)) ?_
  refine js_open (i := 3) (P := fun l : Nat => l = 0 ∨ l = 1) (R := IsU) rfl (fun _ _ _ _ h _ => h) (fun l hl => ?_)
  refine js_cons (N1 := fun G => G = [.pot, .fz (IsU n), .mt (SomM (fun A : List (List Nat) => A.length = n ∧ ∀ r ∈ A, DrR n r) (fun A => LsOf (IsL (IsQ C)) (A.map rowQ))), .fz (IsU l), .un, .un, .un, .un]) (js_for PassesOwn.never rfl (ji_rangeN (n := n) (by omega) (pi_range1 rfl Z.range (ja_cons (jv 1 (R := IsU n)) ja_nil))) (fun x => jg1 4 nd) (fun i G => G = [.pot, .fz (IsU n), .mt (SomM (fun A : List (List Nat) => A.length = i ∧ ∀ r ∈ A, DrR n r) (fun A => LsOf (IsL (IsQ C)) (A.map rowQ))), .fz (IsU l), .un, .un, .un, .un]) rfl ?_ (fun G1 h => by rwa [List.length_range] at h)) ?_
  · rintro i p G1 hi rfl
    have hin : i < n := by have := (List.getElem?_eq_some_iff.mp hi).1; simpa using this
    have hpn : p < n := by
      have := List.mem_of_getElem? hi
      exact List.mem_range.mp this
    refine js_seq (js_setM (i := 5) (Rm := SomM (fun xs : List Nat => xs.length = 0 ∧ ∀ x ∈ xs, x ≤ 2) (LsOf IsU)) (ps_set (i := 5) nd rfl (.inr rfl) (jm_conv (jm_ls (R := IsU) [] (jm_lst (pe_lst ja_nil))) (fun vs F h => ⟨[], ⟨rfl, fun x h => by simp at h⟩, h⟩)))) ?_
    refine js_cons (N1 := fun G => ∃ s, G = [.pot, .fz (IsU n), .mt (SomM (fun A : List (List Nat) => A.length = i ∧ ∀ r ∈ A, DrR n r) (fun A => LsOf (IsL (IsQ C)) (A.map rowQ))), .fz (IsU l), .fz (IsU p), .mt (SomM (fun xs : List Nat => xs.length = n ∧ ∀ x ∈ xs, x ≤ 2) (LsOf IsU)), s, .un]) (js_for PassesOwn.never rfl (ji_rangeN (n := n) (by omega) (pi_range1 rfl Z.range (ja_cons (jv 1 (R := IsU n)) ja_nil))) (fun x => jg1 6 nd) (fun j G => ∃ s, G = [.pot, .fz (IsU n), .mt (SomM (fun A : List (List Nat) => A.length = i ∧ ∀ r ∈ A, DrR n r) (fun A => LsOf (IsL (IsQ C)) (A.map rowQ))), .fz (IsU l), .fz (IsU p), .mt (SomM (fun xs : List Nat => xs.length = j ∧ ∀ x ∈ xs, x ≤ 2) (LsOf IsU)), s, .un]) ⟨_, rfl⟩ ?_ (fun G1 h => by rwa [List.length_range] at h)) ?_
    · rintro j o G1 hj ⟨s, rfl⟩
      have hjn : j < n := by have := (List.getElem?_eq_some_iff.mp hj).1; simpa using this
      refine js_one (js_N (js_append (i := 5) (R := Som (fun d : Nat => d ≤ 2) IsU) (Rm' := SomM (fun xs : List Nat => xs.length = j + 1 ∧ ∀ x ∈ xs, x ≤ 2) (LsOf IsU)) (ps_expr (pe_bm PySem.F.plainAttrs_list PySem.F.slot_list_append PySem.F.type_list_append mt_append (pv 5) (pa_cons (je_if (R := Som (fun d : Nat => d ≤ 2) IsU) (b1 := decide ((o : Int) = (p : Int))) (jt_cmp (pt_cmpR op_eq (jv 6 (R := IsU o)) (jv 4 (R := IsU p)) (nomark _)) rop_eqI) (fun _ => je_conv (R := Som (fun d : Nat => d < 3) IsU) (jcP k__law_draw (hr.mono (by decide)) ⟨0, rfl⟩ 3 (ja_pot (pv 0) rfl (ja_cons jI ja_nil)) ⟨by decide, by decide⟩) (fun v F ⟨d, hd, h⟩ => ⟨d, by have : d < 3 := hd; omega, h⟩))
        (fun _ => je_op (pe_op op_add (jv 3 (R := IsU l)) (jcP k__law_draw (hr.mono (by decide)) ⟨0, rfl⟩ (3 - l) (ja_pot (pv 0) rfl (ja_cons (je_eq (je_op (pe_op op_sub jI (jv 3 (R := IsU l))) rop_sub) (R' := IsU (3 - l)) ?_) ja_nil)) ⟨by omega, by omega⟩)) (rop_somR (fun _ => mo_I) fun d hd => rop_to rop_add fun v F h => ⟨l + d, by have : d < 3 - l := hd; omega, by rw [h]; show V.int _ = V.int _; congr 1⟩))) pa_nil))) rfl (fun vs v F a b => ?_) (fun vs F a => ?_)) ?_)
      · show IsI _ = IsI _
        congr 1
        omega
      · obtain ⟨ws, ⟨h1, h2⟩, h3⟩ := a.here
        obtain ⟨d, hd, e⟩ := b.here
        refine fun F' e' => ⟨ws ++ [d], ⟨by rw [List.length_append, h1]; rfl, fun x hx => ?_⟩, (h3.snoc (fun _ _ => e)).up F' e'⟩
        rcases List.mem_append.mp hx with q | q
        · exact h2 x q
        · have : x = d := by simpa using q
          rw [this]; exact hd
      · obtain ⟨ws, ⟨h1, h2⟩, h3⟩ := a
        rw [← h3.len, h1]
        exact line_of (m := 1000) (by omega)
      · rintro G' rfl
        exact ⟨_, rfl⟩
    · rintro _ ⟨s, rfl⟩
      refine js_openM (i := 5) rfl (fun x vs F F' h e => h.up F' e) (fun xs hx => ?_)
      obtain ⟨hxl, hx2⟩ := hx
      refine js_cons (N1 := fun G => ∃ ys, DrR n ys ∧ G = [.pot, .fz (IsU n), .mt (SomM (fun A : List (List Nat) => A.length = i ∧ ∀ r ∈ A, DrR n r) (fun A => LsOf (IsL (IsQ C)) (A.map rowQ))), .fz (IsU l), .fz (IsU p), .mt (LsOf IsU ys), s, .un]) (js_if (b1 := decide (sumN xs = 0)) (jt_view (i := 5) rfl (jt_cmp (pt_cmpR op_eq (jbB (cr_sum rfl) Z.sum boot_sum (ja_cons (je_conv (jv 5 (R := IsL IsU xs)) isU_lst) ja_nil) rc_sum) jI (nomark _)) rop_eqI)) (fun h => js_one (js_N (js_setitem (i := 5) (k := (((p + 1) % n : Nat) : Int)) (j := (p + 1) % n) (R := IsU 1) (Rm' := LsOf IsU (xs.set ((p + 1) % n) 1)) (ti := fun _ _ _ => True) (ps_asg jI (pg_sub (pv 5) (je_eq (je_op (pe_op op_mod (je_op (pe_op op_add (jv 4 (R := IsU p)) jI) rop_add) (jv 1 (R := IsU n))) (rop_mod (by omega))) ?_) set_list)) rfl (fun vs F a => gw_ixN ?_) (fun vs v F a b => LsOf.up (paired_set a.here b _))) ?_)) (fun h => js_nil ⟨xs, ⟨hxl, hx2, of_decide_eq_false h⟩, rfl⟩)) ?_
      · show IsI _ = IsI _
        congr 1
      · rw [← a.len, hxl]
        exact Nat.mod_lt _ (by omega)
      · rintro G' rfl
        have hm : (p + 1) % n < xs.length := by rw [hxl]; exact Nat.mod_lt _ (by omega)
        refine ⟨_, ⟨by rw [List.length_set]; exact hxl, fun x hx => ?_, fun e => ?_⟩, rfl⟩
        · rcases List.mem_or_eq_of_mem_set hx with q | q
          · exact hx2 x q
          · omega
        · have : (1 : Nat) ∈ xs.set ((p + 1) % n) 1 := List.mem_set hm 1
          have := sumN_mem this
          omega
      · rintro _ ⟨ys, hy, rfl⟩
        obtain ⟨hs1, hs2⟩ := sumN_le hy.le
        have hyl := hy.l
        refine js_frz (i := 5) rfl ?_
        refine js_openM (i := 2) rfl (fun x vs F F' h e => LsOf.up h F' e) (fun A hA => ?_)
        refine js_seq (js_append (i := 2) (R := IsL (IsQ C) (rowQ ys)) (Rm' := SomM (fun A : List (List Nat) => A.length = i + 1 ∧ ∀ r ∈ A, DrR n r) (fun A => LsOf (IsL (IsQ C)) (A.map rowQ))) (ps_expr (pe_bm PySem.F.plainAttrs_list PySem.F.slot_list_append PySem.F.type_list_append mt_append (pv 2) (pa_cons (je_m (jlc (Ry := IsQ C) (fun x : Nat => Rat.divInt (x : Int) (sumN ys)) [("one", 7)] nd (ji_list (Rx := IsU) (xs := ys) (pi_list (jv 5))) (fun s H C' cl fp x => jg1 7 nd) (fun s H C' cl fp x hx => jmk2 mk (hr.mono (by decide)) (ja_cons (jv 7 (R := IsU x)) (ja_cons (jbB (cr_sum rfl) Z.sum boot_sum (ja_cons (je_conv (jv 5 (R := IsL IsU ys)) isU_lst) ja_nil) rc_sum) ja_nil)) ⟨hy.s, ?_⟩) (line_of (m := 1000) (by omega)))) pa_nil))) rfl (fun vs v F a b => ?_) (fun vs F a => ?_)) ?_
        · exact log2_lt (n := 9000) (by decide) (by
            have e : (sumN ys).natAbs ≤ 20 := by omega
            exact Nat.lt_of_le_of_lt e (Nat.lt_of_lt_of_le (by decide : (20 : Nat) < 2 ^ 5) (Nat.pow_le_pow_right (by decide) (by decide))))
        · refine fun F' e' => ⟨A ++ [ys], ⟨by rw [List.length_append, hA.1]; rfl, fun r hr' => ?_⟩, ?_⟩
          · rcases List.mem_append.mp hr' with q | q
            · exact hA.2 r q
            · have : r = ys := by simpa using q
              rw [this]; exact hy
          · show LsOf (IsL (IsQ C)) ((A ++ [ys]).map rowQ) (vs ++ [v]) F'
            rw [List.map_append]
            exact (LsOf.snoc a.here b).up F' e'
        · rw [← a.len, List.length_map, hA.1]
          exact line_of (m := 1000) (by omega)
        · exact js_weak (le_wipe _ [4, 5, 6]) (js_nil rfl)
  · rintro _ rfl
    exact js_one (js_retVM (pv 2) rfl)
end
end Gw
set_option maxHeartbeats 4000000
namespace Gw
open PySem PySem.Spec PyProof.Rows L2
abbrev RwG : Type := List (Rat × Nat)
abbrev IsRw (C : Addr) (g : RwG) : V → Hp → Prop := IsL (fun p : Rat × Nat => IsTp [IsQ C p.1, IsU p.2]) g
def qHalf : Rat := Rat.divInt 1 2
def qThird : Rat := Rat.divInt 1 3
def gSure : RwG := [(((1 : Int) : Rat), 12)]
def gNear : RwG := [(qHalf, 6), (qHalf, 18)]
def gFar : RwG := [(qHalf, 0), (qHalf, 24)]
def gLow : RwG := [(qThird, 0), (qThird + qThird, 18)]
def gHigh : RwG := [(qThird + qThird, 6), (qThird, 24)]
def rwGs : List RwG := [gSure, gNear, gFar, gLow, gHigh]
def rwPs : List (RwG × RwG) := [(gSure, gNear), (gSure, gFar), (gNear, gFar), (gNear, gLow), (gSure, gLow), (gSure, gHigh), (gNear, gNear), (gHigh, gHigh), (gLow, gFar)]
/-- both ways positive -/
def Conn2 (rows : List (List Rat)) : Prop := ∀ S : Nat → Prop, S 0 → (∀ i j, S i → i < rows.length → j < rows.length → 0 < (rows[i]!)[j]! → 0 < (rows[j]!)[i]! → S j) → ∀ i, i < rows.length → S i
structure MetI (rows : List (List Rat)) (met : List Nat) : Prop where
  nd : met.Nodup
  lt : ∀ x ∈ met, x < rows.length
  r : ∀ S : Nat → Prop, S 0 → (∀ i j, S i → i < rows.length → j < rows.length → 0 < (rows[i]!)[j]! → 0 < (rows[j]!)[i]! → S j) → ∀ x ∈ met, S x
section
variable {P : Program} {w : World} {K : PySem.W.Frag} {mg : Str → Option Value} {base : Heap} {C : Addr}
theorem tp2_L {C : Addr} {p q : Rat × Nat} : ∀ v F, LstOf (Args [IsTp [IsQ C p.1, IsU p.2], IsTp [IsQ C q.1, IsU q.2]]) v F → IsRw C [p, q] v F := fun v F ⟨a, vs, e, h, u⟩ => ⟨a, vs, e, h, u.imp fun F q => args_ls q⟩
theorem tp1_L {C : Addr} {p : Rat × Nat} : ∀ v F, LstOf (Args [IsTp [IsQ C p.1, IsU p.2]]) v F → IsRw C [p] v F := fun v F ⟨a, vs, e, h, u⟩ => ⟨a, vs, e, h, u.imp fun F q => args_ls q⟩
abbrev IsRp (C : Addr) (g : RwG × RwG) : V → Hp → Prop := IsTp [IsRw C g.1, IsRw C g.2]
abbrev sp__law_two (C : Addr) : Sp := PrP (ι := Unit) (fun _ => []) (fun _ => True) (fun _ => Som (fun g : RwG × RwG => g ∈ rwPs) (IsRp C))
abbrev Kn__law_two (P : Program) (w : World) (K : PySem.W.Frag) (mg : Str → Option Value) (base : Heap) (C : Addr) : Prop := Kn P w K mg base "_law_two" 7 ["pot"] (sp__law_two C)
theorem ok__law_two (Z : Glo K mg C) (mk : Mkr P w K mg base C 2) (oadd : Opr P w K mg base C .Add 6 (fun w => Fits w.1 w.2) (· + ·)) (k__law_pick : Kn__law_pick P w K mg base C) {f : Addr} {fd : FuncData} (Fd : FnP K "_law_two" st__law_two f fd) : FnOk P w K mg base CX0 7 f fd ["pot"] (sp__law_two C) := by
  refine fn_prP Fd sc__law_two (fun u => by first | rfl | (cases u <;> rfl)) (by decide) (fun X u E hX hp => ?_)
  obtain ⟨cdv, A, outer, s, H, E', rfl, hr⟩ := hX
  refine PSs.nox ?_
  have nd := (sc__law_two).nd
  replace hr : Room 6 (cxOf CX0 P w K mg base N__law_two "_law_two" (defScope st__law_two) f cdv A outer s H E').nox.A := hr
  refine js_seq (js_par (i := 1) (j := 2) (Ra := IsQ C qHalf) (Rb := IsQ C qThird) (ps_par (i := 1) (j := 2) rfl nd rfl rfl (by decide) rfl rfl (pa_cons (jmk2 mk (hr.mono (by decide)) (ja_cons jI (ja_cons jI ja_nil)) ⟨by decide, by decide⟩) (pa_cons (jmk2 mk (hr.mono (by decide)) (ja_cons jI (ja_cons jI ja_nil)) ⟨by decide, by decide⟩) pa_nil)) rfl)) ?_
  refine js_seq (js_par3 (i := 3) (j := 4) (l := 5) (Ra := IsRw C gSure) (Rb := IsRw C gNear) (Rc := IsRw C gFar) (ps_par3 (i := 3) (j := 4) (l := 5) rfl nd rfl rfl rfl (by decide) (by decide) (by decide) rfl rfl rfl (pa_cons (je_conv (je_m (jm_lst (Rs := [IsTp [IsQ C ((1 : Int) : Rat), IsU 12]]) (pe_lst (ja_cons (je_tup (pe_tup (ja_cons (jmk1 mk (hr.mono (by decide)) (ja_cons jI ja_nil)) (ja_cons jI ja_nil)))) ja_nil)))) (tp1_L (p := (((1 : Int) : Rat), 12)))) (pa_cons (je_conv (je_m (jm_lst (Rs := [IsTp [IsQ C qHalf, IsU 6], IsTp [IsQ C qHalf, IsU 18]]) (pe_lst (ja_cons (je_tup (pe_tup (ja_cons (jv 1) (ja_cons jI ja_nil)))) (ja_cons (je_tup (pe_tup (ja_cons (jv 1) (ja_cons jI ja_nil)))) ja_nil))))) (tp2_L (p := (qHalf, 6)) (q := (qHalf, 18)))) (pa_cons (je_conv (je_m (jm_lst (Rs := [IsTp [IsQ C qHalf, IsU 0], IsTp [IsQ C qHalf, IsU 24]]) (pe_lst (ja_cons (je_tup (pe_tup (ja_cons (jv 1) (ja_cons jI ja_nil)))) (ja_cons (je_tup (pe_tup (ja_cons (jv 1) (ja_cons jI ja_nil)))) ja_nil))))) (tp2_L (p := (qHalf, 0)) (q := (qHalf, 24)))) pa_nil))) rfl)) ?_
  have hf : Fits qThird qThird := Sz.fits (n := 4) (m := 4) ⟨by decide, by decide⟩ ⟨by decide, by decide⟩ (by decide)
  refine js_seq (js_par (i := 6) (j := 7) (Ra := IsRw C gLow) (Rb := IsRw C gHigh) (ps_par (i := 6) (j := 7) rfl nd rfl rfl (by decide) rfl rfl (pa_cons (je_conv (je_m (jm_lst (Rs := [IsTp [IsQ C qThird, IsU 0], IsTp [IsQ C (qThird + qThird), IsU 18]]) (pe_lst (ja_cons (je_tup (pe_tup (ja_cons (jv 2) (ja_cons jI ja_nil)))) (ja_cons (je_tup (pe_tup (ja_cons (joQ oadd (hr.mono (by decide)) (jv 2) (jv 2) hf) (ja_cons jI ja_nil)))) ja_nil))))) (tp2_L (p := (qThird, 0)) (q := (qThird + qThird, 18)))) (pa_cons (je_conv (je_m (jm_lst (Rs := [IsTp [IsQ C (qThird + qThird), IsU 6], IsTp [IsQ C qThird, IsU 24]]) (pe_lst (ja_cons (je_tup (pe_tup (ja_cons (joQ oadd (hr.mono (by decide)) (jv 2) (jv 2) hf) (ja_cons jI ja_nil)))) (ja_cons (je_tup (pe_tup (ja_cons (jv 2) (ja_cons jI ja_nil)))) ja_nil))))) (tp2_L (p := (qThird + qThird, 6)) (q := (qThird, 24)))) pa_nil)) rfl)) ?_
  refine js_one (js_ret (je_conv (R := PickK [IsRp C (gSure, gNear), IsRp C (gSure, gFar), IsRp C (gNear, gFar), IsRp C (gNear, gLow), IsRp C (gSure, gLow), IsRp C (gSure, gHigh), IsRp C (gNear, gNear), IsRp C (gHigh, gHigh), IsRp C (gLow, gFar)]) (jcP k__law_pick (hr.mono (by decide)) ⟨0, rfl⟩ (true, [IsRp C (gSure, gNear), IsRp C (gSure, gFar), IsRp C (gNear, gFar), IsRp C (gNear, gLow), IsRp C (gSure, gLow), IsRp C (gSure, gHigh), IsRp C (gNear, gNear), IsRp C (gHigh, gHigh), IsRp C (gLow, gFar)]) (ja_pot (pv 0) rfl (ja_cons (je_m (jm_lst (pe_lst (ja_cons (je_tup (pe_tup (ja_cons (jv 3) (ja_cons (jv 4) ja_nil)))) (ja_cons (je_tup (pe_tup (ja_cons (jv 3) (ja_cons (jv 5) ja_nil)))) (ja_cons (je_tup (pe_tup (ja_cons (jv 4) (ja_cons (jv 5) ja_nil)))) (ja_cons (je_tup (pe_tup (ja_cons (jv 4) (ja_cons (jv 6) ja_nil)))) (ja_cons (je_tup (pe_tup (ja_cons (jv 3) (ja_cons (jv 6) ja_nil)))) (ja_cons (je_tup (pe_tup (ja_cons (jv 3) (ja_cons (jv 7) ja_nil)))) (ja_cons (je_tup (pe_tup (ja_cons (jv 4) (ja_cons (jv 4) ja_nil)))) (ja_cons (je_tup (pe_tup (ja_cons (jv 7) (ja_cons (jv 7) ja_nil)))) (ja_cons (je_tup (pe_tup (ja_cons (jv 6) (ja_cons (jv 5) ja_nil)))) ja_nil)))))))))))) ja_nil)) ⟨by show 0 < 9; decide, by show 9 < 1000; decide, fun R hR => ?_⟩) (fun v F ⟨R, hR, h⟩ => ?_)))
  · simp only [List.mem_cons, List.not_mem_nil, or_false] at hR
    rcases hR with rfl | rfl | rfl | rfl | rfl | rfl | rfl | rfl | rfl <;> exact mo_T
  · simp only [List.mem_cons, List.not_mem_nil, or_false] at hR
    rcases hR with rfl | rfl | rfl | rfl | rfl | rfl | rfl | rfl | rfl <;> exact ⟨_, by simp [rwPs], h⟩
def handed (p : Rat × Nat) : Rat × Rat := (p.1, Rat.divInt (p.2 : Int) 12)
abbrev sp__law_handed (C : Addr) : Sp := Pr (ι := RwG) (fun g => [IsRw C g]) (fun g => g.length ≤ 10) (fun g => IsGQ C (g.map handed))
abbrev Kn__law_handed (P : Program) (w : World) (K : PySem.W.Frag) (mg : Str → Option Value) (base : Heap) (C : Addr) : Prop := Kn P w K mg base "_law_handed" 4 ["guess"] (sp__law_handed C)
theorem ok__law_handed (Z : Glo K mg C) (mk : Mkr P w K mg base C 2) {f : Addr} {fd : FuncData} (Fd : FnP K "_law_handed" st__law_handed f fd) : FnOk P w K mg base CX0 4 f fd ["guess"] (sp__law_handed C) := by
  refine fn_pr Fd sc__law_handed (fun u => by first | rfl | (cases u <;> rfl)) (fun _ => False) (fun _ _ h => h.elim) (fun X u E hX hp hE => ?_)
  obtain ⟨cdv, A, outer, s, H, E', rfl, hr⟩ := hX
  refine PSs.nox ?_
  have nd := (sc__law_handed).nd
  replace hr : Room 3 (cxOf CX0 P w K mg base N__law_handed "_law_handed" (defScope st__law_handed) f cdv A outer s H E').nox.A := hr
  rename RwG => g
  exact js_one (js_ret (je_m (jlc (Ry := IsPq C) handed [("chance", 1), ("twelfths", 2)] nd (ji_list (Rx := fun p : Rat × Nat => IsTp [IsQ C p.1, IsU p.2]) (xs := g) (pi_list (jv 0))) (fun s H C' cl fp x => jg2 1 2 nd) (fun s H C' cl fp x hx => je_tup (pe_tup (ja_cons (jv 1) (ja_cons (jmk2 mk (hr.mono (by decide)) (ja_cons (jv 2 (R := IsU x.2)) (ja_cons jI ja_nil)) ⟨by decide, by decide⟩) ja_nil)))) (line_of (m := 1000) (by have : g.length ≤ 10 := hp; omega)))))
abbrev sp__law_is_joined (C : Addr) : Sp := Pr (ι := List (List Rat)) (fun w => [IsQM C w]) (fun w => 1 ≤ w.length ∧ w.length ≤ 10 ∧ ∀ r ∈ w, r.length = w.length) (fun w => Som (fun b : Bool => b = true → Conn2 w) IsB)
abbrev Kn__law_is_joined (P : Program) (w : World) (K : PySem.W.Frag) (mg : Str → Option Value) (base : Heap) (C : Addr) : Prop := Kn P w K mg base "_law_is_joined" 3 ["rows"] (sp__law_is_joined C)
theorem ok__law_is_joined (Z : Glo K mg C) (psign : PropK P w K mg base C "sign" 1 (sp_Rsign C)) {f : Addr} {fd : FuncData} (Fd : FnP K "_law_is_joined" st__law_is_joined f fd) : FnOk P w K mg base CX0 3 f fd ["rows"] (sp__law_is_joined C) := by
  refine fn_pr Fd sc__law_is_joined (fun u => by first | rfl | (cases u <;> rfl)) (fun _ => False) (fun _ _ h => h.elim) (fun X u E hX hp hE => ?_)
  obtain ⟨cdv, A, outer, s, H, E', rfl, hr⟩ := hX
  refine PSs.nox ?_
  have nd := (sc__law_is_joined).nd
  replace hr : Room 2 (cxOf CX0 P w K mg base N__law_is_joined "_law_is_joined" (defScope st__law_is_joined) f cdv A outer s H E').nox.A := hr
  rename List (List Rat) => rows
  obtain ⟨h1, h2, hrr⟩ := hp
  have hpl : ∀ x vs F F', LsOf IsU x vs F → Ex F F' → LsOf IsU x vs F' := fun x vs F F' h e => h.up F' e
  refine js_seq (js_setM (Rm := SomM (MetI rows) (LsOf IsU)) (ps_set (i := 1) nd rfl (.inl rfl) (jm_conv (jm_ls (R := IsU) [0] (jm_lst (pe_lst (ja_cons jI ja_nil)))) (fun vs F h => ⟨[0], ⟨by simp, fun x hx => by simp at hx; omega, fun S h0 _ x hx => by simp at hx; rw [hx]; exact h0⟩, h⟩)))) ?_
  refine js_cons (N1 := fun G => G = [.fz (IsQM C rows), .mt (SomM (MetI rows) (LsOf IsU)), .un, .un, .un]) (js_for PassesOwn.never rfl (ji_list (Rx := IsL (IsQ C)) (xs := rows) (pi_list (jv 0))) (fun x => jg1 2 nd) (fun i G => G = [.fz (IsQM C rows), .mt (SomM (MetI rows) (LsOf IsU)), .un, .un, .un]) rfl ?_ (fun G1 h => h)) ?_
  · rintro i turn G1 hi rfl
    refine js_cons (N1 := fun G => G = [.fz (IsQM C rows), .mt (SomM (MetI rows) (LsOf IsU)), .fz (IsL (IsQ C) turn), .un, .un]) (js_for PassesOwn.never rfl (ji_rangeN (n := rows.length) (by omega) (pi_range1 rfl Z.range (ja_cons (jbB call_len Z.len boot_len (ja_cons (jv 0 (R := IsQM C rows)) ja_nil) rc_len) ja_nil))) (fun x => jg1 3 nd) (fun j G => G = [.fz (IsQM C rows), .mt (SomM (MetI rows) (LsOf IsU)), .fz (IsL (IsQ C) turn), .un, .un]) rfl ?_ (fun G1 h => h)) ?_
    · rintro j at_ G1 hj rfl
      have hat : at_ < rows.length := List.mem_range.mp (List.mem_of_getElem? hj)
      refine js_openM (i := 1) rfl hpl (fun met hm => ?_)
      have hml := nodup_le hm.nd hm.lt
      refine js_cons (N1 := fun G => G = [.fz (IsQM C rows), .mt (SomM (MetI rows) (LsOf IsU)), .fz (IsL (IsQ C) turn), .fz (IsU at_), .un]) (js_if (b1 := !decide (at_ ∈ met) && !(((met.filter fun (here : Nat) => decide (0 < (rows[here]!)[at_]!) && decide (0 < (rows[at_]!)[here]!)).map fun _ => (1 : Int))).isEmpty) (PW.pt (jw_and (jt_eq (jt_view (i := 1) rfl (jt_cmp (pt_cmpR op_notIn_seq (jv 3 (R := IsU at_)) (je_conv (jv 1 (R := IsL IsU met)) isU_lst) (by with_unfolding_all rfl)) rop_notIn)) ?_) fun _ => jw_and1 (jt_view (i := 1) rfl (jt_cmp (pt_cmpR (op_neD hr.units) (je_m (jm_lc (own := [("here", 4)]) (Ry := IsI) (fun here : Nat => decide (0 < (rows[here]!)[at_]!) && decide (0 < (rows[at_]!)[here]!)) (fun _ => (1 : Int)) rfl nd (ji_list (Rx := IsU) (xs := met) (pi_list (jv 1))) (blkOk_by (by kernel_rfl)) (by decide) (fun s H C' cl fp x => jg1 4 nd) (fun s H C' cl fp x hx => jts_one (PW.pt (jw_and (jt_eq (jt_cmp (pt_cmpR op_gt (jprop psign hr (rows[x]!)[at_]! (je_op (pe_ix ix_list (je_op (pe_ix ix_list (jv 0 (R := IsQM C rows)) (jv 4 (R := IsU x)) (fun _ _ => rfl)) (rop_ixB (hm.lt x hx))) (jv 3 (R := IsU at_)) (fun _ _ => rfl)) (rop_ixB (by rw [hrr _ (get_mem (hm.lt x hx))]; exact hat))) rfl trivial rfl) jI (nomark _)) rop_gt) (by rw [q_sgn_pos])) fun _ => jw_and1 (jt_eq (jt_cmp (pt_cmpR op_gt (jprop psign hr (rows[at_]!)[x]! (je_op (pe_ix ix_list (je_op (pe_ix ix_list (jv 0 (R := IsQM C rows)) (jv 3 (R := IsU at_)) (fun _ _ => rfl)) (rop_ixB hat)) (jv 4 (R := IsU x)) (fun _ _ => rfl)) (rop_ixB (by rw [hrr _ (get_mem hat)]; exact hm.lt x hx))) rfl trivial rfl) jI (nomark _)) rop_gt) (by rw [q_sgn_pos]))))) (fun s H C' cl fp x hx _ => jI) (line_of (m := 1000) (by omega)))) (je_m (jm_ls (α := Int) (R := IsI) [] (jm_lst (pe_lst ja_nil)))) (nomark _)) rop_neNil)))) (fun h => js_one (js_N (js_append (i := 1) (R := IsU at_) (Rm' := SomM (MetI rows) (LsOf IsU)) (ps_expr (pe_bm PySem.F.plainAttrs_list PySem.F.slot_list_append PySem.F.type_list_append mt_append (pv 1) (pa_cons (jv 3) pa_nil))) rfl (fun vs v F a b => ?_) (fun vs F a => ?_)) (fun G' h => h))) (fun h => js_weak (.cons (Le.rfl' _) (.cons (.mt fun v F h => ⟨met, hm, h⟩) (.cons (Le.rfl' _) (.cons (Le.rfl' _) (.cons (Le.rfl' _) .nil))))) (js_nil rfl))) ?_
      · congr 1
        rw [decide_eq_decide, List.mem_map]
        constructor
        · rintro ⟨a, h1, h2⟩
          rw [← Int.ofNat.inj h2]
          exact h1
        · exact fun h => ⟨_, h, rfl⟩
      · simp only [Bool.and_eq_true, Bool.not_eq_true', decide_eq_false_iff_not] at h
        obtain ⟨hn, he⟩ := h
        obtain ⟨here, hh⟩ : ∃ here, here ∈ met.filter fun (here : Nat) => decide (0 < (rows[here]!)[at_]!) && decide (0 < (rows[at_]!)[here]!) := by
          cases e : met.filter fun (here : Nat) => decide (0 < (rows[here]!)[at_]!) && decide (0 < (rows[at_]!)[here]!) with
          | nil => rw [e] at he; exact absurd he (by simp)
          | cons x l => exact ⟨x, by simp⟩
        obtain ⟨q1, q2⟩ := List.mem_filter.mp hh
        simp only [Bool.and_eq_true, decide_eq_true_eq] at q2
        refine fun F' e' => ⟨met ++ [at_], ⟨?_, fun x hx => ?_, fun S h0 hc x hx => ?_⟩, (a.here.snoc b).up F' e'⟩
        · rw [List.nodup_append]
          refine ⟨hm.nd, by simp, fun a h1 b h2 e => ?_⟩
          have : b = at_ := by simpa using h2
          subst e
          rw [this] at h1
          exact hn h1
        · rcases List.mem_append.mp hx with q | q
          · exact hm.lt x q
          · have : x = at_ := by simpa using q
            rw [this]; exact hat
        · rcases List.mem_append.mp hx with q | q
          · exact hm.r S h0 hc x q
          · have : x = at_ := by simpa using q
            rw [this]
            exact hc here at_ (hm.r S h0 hc here q1) (hm.lt here q1) hat q2.1 q2.2
      · rw [← a.len]
        exact line_of (m := 1000) (by omega)
      · rintro _ rfl
        exact js_weak (le_wipe _ [3]) (js_nil rfl)
    · rintro _ rfl
      exact js_weak (le_wipe _ [2]) (js_nil rfl)
  · rintro _ rfl
    refine js_openM (i := 1) rfl hpl (fun met hm => ?_)
    refine js_one (js_ret (je_conv (je_view (i := 1) (R := IsB (decide ((met.length : Int) = (rows.length : Int)))) rfl (fun v F F' h => h) (je_op (pe_cmpR op_eq (jbB call_len Z.len boot_len (ja_cons (jv 1 (R := IsL IsU met)) ja_nil) rc_len) (jbB call_len Z.len boot_len (ja_cons (jv 0 (R := IsQM C rows)) ja_nil) rc_len) (nomark _)) rop_eqI)) (fun v F h => ⟨_, fun hb S h0 hc i hi => ?_, h⟩)))
    have hb := of_decide_eq_true hb
    have hl : met.length = rows.length := by omega
    refine hm.r S h0 hc i ?_
    by_cases hin : i ∈ met
    · exact hin
    · exfalso
      have := nodup_le (n := rows.length) (xs := i :: met) (List.nodup_cons.mpr ⟨hin, hm.nd⟩) (fun x hx => by
        rcases List.mem_cons.mp hx with e | e
        · rw [e]; exact hi
        · exact hm.lt x e)
      rw [List.length_cons] at this
      omega
end
end Gw
set_option maxHeartbeats 4000000
namespace Gw
open PySem PySem.Spec PyProof.Rows L2
theorem q_le (q r : Rat) : decide (q.num * r.den ≤ r.num * q.den) = decide (q ≤ r) := by
  rw [decide_eq_decide]
  exact (Rat.le_iff q r).symm
/-- what worths are above a number -/
def aboveL (g : List (Rat × Rat)) (x : Rat) : List Rat := (g.filter fun p => !decide (p.2 < x)).map fun p => p.1 * (p.2 - x)
def aboveR (g : List (Rat × Rat)) (x : Rat) : Rat := sumR (aboveL g x)
structure SzG (g : List (Rat × Rat)) : Prop where
  l : g.length ≤ 4
  z : ∀ p ∈ g, Sz 100 p.1 ∧ Sz 100 p.2
theorem GuessP.szg {g : List (Rat × Rat)} (h : GuessP g) : SzG g := ⟨h.hi, h.sz⟩
theorem SzG.al {g : List (Rat × Rat)} (h : SzG g) {x : Rat} (hx : Sz 100 x) : (∀ y ∈ aboveL g x, Sz 301 y) ∧ (aboveL g x).length ≤ 4 := by
  refine ⟨fun y hy => ?_, ?_⟩
  · obtain ⟨p, hp, rfl⟩ := List.mem_map.mp hy
    have hp := (List.mem_filter.mp hp).1
    exact (h.z p hp).1.mul ((h.z p hp).2.sub hx)
  · unfold aboveL
    rw [List.length_map]
    exact Nat.le_trans (List.length_filter_le _ _) h.l
theorem SzG.ar {g : List (Rat × Rat)} (h : SzG g) {x : Rat} (hx : Sz 100 x) : Sz 1300 (aboveR g x) := by
  obtain ⟨a, b⟩ := h.al hx
  exact (sz_sumR a).mono (by omega)
section
variable {P : Program} {w : World} {K : PySem.W.Frag} {mg : Str → Option Value} {base : Heap} {C : Addr}
abbrev sp_Ris_at_most (C : Addr) : Sp := Pr (qA C) (fun w => Fits w.1 w.2) (fun w => IsB (decide (w.1 ≤ w.2)))
theorem ok_Ris_at_most (Z : Glo K mg C) (k_told_pair : Kn_told_pair P w K mg base C) {f : Addr} {fd : FuncData} (Fd : FnM K "is_at_most" "Ratio.is_at_most" st_Ris_at_most f fd) : FnOk P w K mg base CX0 6 f fd ["self", "other"] (sp_Ris_at_most C) := by
  refine fn_pr Fd sc_Ris_at_most (fun u => by first | rfl | (cases u <;> rfl)) (fun _ => False) (fun _ _ h => h.elim) (fun X u E hX hp hE => ?_)
  obtain ⟨cdv, A, outer, s, H, E', rfl, hr⟩ := hX
  refine PSs.nox ?_
  have nd := (sc_Ris_at_most).nd
  replace hr : Room 5 (cxOf CX0 P w K mg base N_Ris_at_most "Ratio.is_at_most" (defScope st_Ris_at_most) f cdv A outer s H E').nox.A := hr
  obtain ⟨q, r⟩ := u
  have hp : Fits q r := hp
  refine js_seq (js_asg (ps_asg (jc k_told_pair (hr.mono (by decide)) r (ja_cons (jv 1) ja_nil) trivial) (jg2 2 3 nd))) ?_
  refine js_one (js_ret (je_eq (je_op (pe_cmpR op_le (je_op (pe_op op_mulW (je_top Z.F (jv 0)) (jv 3)) (rop_mulW (fits_m1 hp))) (je_op (pe_op op_mulW (jv 2) (je_bot Z.F (jv 0))) (rop_mulW (fits_m2 hp))) (nomark _)) rop_le) ?_))
  rw [q_le]
abbrev sp_want_guess (C : Addr) : Sp := Pr (ι := List (Rat × Rat)) (fun w => [IsSG C w]) GuessP (fun w => IsGQ C w)
abbrev Kn_want_guess (P : Program) (w : World) (K : PySem.W.Frag) (mg : Str → Option Value) (base : Heap) (C : Addr) : Prop := Kn P w K mg base "want_guess" 9 ["value"] (sp_want_guess C)
theorem ok_want_guess (Z : Glo K mg C) (k_guess_in : Kn_guess_in P w K mg base C) {f : Addr} {fd : FuncData} (Fd : FnP K "want_guess" st_want_guess f fd) : FnOk P w K mg base CX0 9 f fd ["value"] (sp_want_guess C) := by
  refine fn_pr Fd sc_want_guess (fun u => by first | rfl | (cases u <;> rfl)) (fun _ => False) (fun _ _ h => h.elim) (fun X u E hX hp hE => ?_)
  obtain ⟨cdv, A, outer, s, H, E', rfl, hr⟩ := hX
  refine PSs.nox ?_
  have nd := (sc_want_guess).nd
  replace hr : Room 8 (cxOf CX0 P w K mg base N_want_guess "want_guess" (defScope st_want_guess) f cdv A outer s H E').nox.A := hr
  rename List (Rat × Rat) => ps
  refine js_seq (js_set (R := IsGQ C ps) (ps_set (i := 1) nd rfl (.inl rfl) (jc k_guess_in (hr.mono (by decide)) ps (ja_cons (jv 0) ja_nil) hp))) ?_
  refine js_seq (G1 := [.fz (IsSG C ps), .fz (IsGQ C ps)]) (js_if (b1 := false) (jt_cmp (pt_cmpR op_isN (jv 1 (R := IsGQ C ps)) jNon (nomark _)) (rop_isN (fun v F h => by
      obtain ⟨a, vs, rfl, _⟩ := h
      rfl))) (fun h => nomatch h) (fun _ => js_nil rfl)) ?_
  exact js_one (js_ret (jv 1))
abbrev sp_above (C : Addr) : Sp := Pr (ι := List (Rat × Rat) × Rat) (fun w => [IsGQ C w.1, IsQ C w.2]) (fun w => SzG w.1 ∧ Sz 100 w.2) (fun w => IsQ C (aboveR w.1 w.2))
abbrev Kn_above (P : Program) (w : World) (K : PySem.W.Frag) (mg : Str → Option Value) (base : Heap) (C : Addr) : Prop := Kn P w K mg base "above" 8 ["guess", "number"] (sp_above C)
theorem ok_above (Z : Glo K mg C) (omul : Opr P w K mg base C .Mult 6 (fun w => Fits w.1 w.2) (· * ·)) (osub : Opr P w K mg base C .Sub 6 (fun w => Fits w.1 w.2) (· - ·)) (k_total_of : Kn_total_of P w K mg base C) (mbelow : MethK P w K mg base C "is_below" 6 ["self", "other"] (sp_Ris_below C)) {f : Addr} {fd : FuncData} (Fd : FnP K "above" st_above f fd) : FnOk P w K mg base CX0 8 f fd ["guess", "number"] (sp_above C) := by
  refine fn_pr Fd sc_above (fun u => by first | rfl | (cases u <;> rfl)) (fun _ => False) (fun _ _ h => h.elim) (fun X u E hX hp hE => ?_)
  obtain ⟨cdv, A, outer, s, H, E', rfl, hr⟩ := hX
  refine PSs.nox ?_
  have nd := (sc_above).nd
  replace hr : Room 7 (cxOf CX0 P w K mg base N_above "above" (defScope st_above) f cdv A outer s H E').nox.A := hr
  obtain ⟨g, x⟩ := u
  obtain ⟨h1, h2⟩ : SzG g ∧ Sz 100 x := hp
  have hl := h1.l
  obtain ⟨a1, a2⟩ := h1.al h2
  refine js_one (js_ret (jc k_total_of (hr.mono (by decide)) (aboveL g x) (ja_cons (je_m (jm_lc (own := [("chance", 2), ("worth", 3)]) (Ry := IsQ C) (fun p : Rat × Rat => !decide (p.2 < x)) (fun p : Rat × Rat => p.1 * (p.2 - x)) rfl nd (ji_list (Rx := IsPq C) (xs := g) (pi_list (jv 0))) (blkOk_by (by kernel_rfl)) (by decide) (fun s H C' cl fp p => jg2 2 3 nd) (fun s H C' cl fp p hx => jts_one (jt_not (jt_val (pt_val (jmeth mbelow (hr.mono (by decide)) (p.2, x) (jv 3) (ja_cons (je_conv (jv 1 (R := IsQ C x)) isQ_nm) ja_nil) rfl ((h1.z p hx).2.fits h2 (by decide))))))) (fun s H C' cl fp p hx _ => joQ (q := p.1) (r := p.2 - x) omul (hr.mono (by decide)) (jv 2 (R := IsQ C p.1)) (joQ (q := p.2) (r := x) osub (hr.mono (by decide)) (jv 3 (R := IsQ C p.2)) (jv 1 (R := IsQ C x)) ((h1.z p hx).2.fits h2 (by decide))) ((h1.z p hx).1.fits ((h1.z p hx).2.sub h2) (by decide))) (line_of (m := 1000) (by omega)))) ja_nil) (FitsL.zero a1 (by omega))))
abbrev sp_is_hinge_of (C : Addr) : Sp := Pr (ι := List (Rat × Rat) × List (Rat × Rat) × Rat) (fun w => [IsGQ C w.1, IsGQ C w.2.1, IsQ C w.2.2]) (fun w => SzG w.1 ∧ SzG w.2.1 ∧ Sz 100 w.2.2) (fun w => IsB (decide (aboveR w.2.1 w.2.2 < aboveR w.1 w.2.2)))
abbrev Kn_is_hinge_of (P : Program) (w : World) (K : PySem.W.Frag) (mg : Str → Option Value) (base : Heap) (C : Addr) : Prop := Kn P w K mg base "is_hinge_of" 9 ["guess", "other", "number"] (sp_is_hinge_of C)
theorem ok_is_hinge_of (Z : Glo K mg C) (k_above : Kn_above P w K mg base C) (mbelow : MethK P w K mg base C "is_below" 6 ["self", "other"] (sp_Ris_below C)) {f : Addr} {fd : FuncData} (Fd : FnP K "is_hinge_of" st_is_hinge_of f fd) : FnOk P w K mg base CX0 9 f fd ["guess", "other", "number"] (sp_is_hinge_of C) := by
  refine fn_pr Fd sc_is_hinge_of (fun u => by first | rfl | (cases u <;> rfl)) (fun _ => False) (fun _ _ h => h.elim) (fun X u E hX hp hE => ?_)
  obtain ⟨cdv, A, outer, s, H, E', rfl, hr⟩ := hX
  refine PSs.nox ?_
  have nd := (sc_is_hinge_of).nd
  replace hr : Room 8 (cxOf CX0 P w K mg base N_is_hinge_of "is_hinge_of" (defScope st_is_hinge_of) f cdv A outer s H E').nox.A := hr
  obtain ⟨g, o, x⟩ := u
  obtain ⟨h1, h2, h3⟩ : SzG g ∧ SzG o ∧ Sz 100 x := hp
  exact js_one (js_ret (jmeth mbelow (hr.mono (by decide)) (aboveR o x, aboveR g x) (jc k_above (hr.mono (by decide)) (o, x) (ja_cons (jv 1) (ja_cons (jv 2) ja_nil)) ⟨h2, h3⟩) (ja_cons (je_conv (jc k_above (hr.mono (by decide)) (g, x) (ja_cons (jv 0) (ja_cons (jv 2) ja_nil)) ⟨h1, h3⟩) isQ_nm) ja_nil) rfl ((h2.ar h3).fits (h1.ar h3) (by decide))))
abbrev sp_hinge_of (C : Addr) : Sp := Pr (ι := List (Rat × Rat) × List (Rat × Rat)) (fun w => [IsGQ C w.1, IsGQ C w.2]) (fun w => SzG w.1 ∧ SzG w.2 ∧ ∀ p ∈ w.2, ¬ aboveR w.2 p.2 < aboveR w.1 p.2) (fun w => IsN)
abbrev Kn_hinge_of (P : Program) (w : World) (K : PySem.W.Frag) (mg : Str → Option Value) (base : Heap) (C : Addr) : Prop := Kn P w K mg base "hinge_of" 10 ["guess", "other"] (sp_hinge_of C)
theorem ok_hinge_of (Z : Glo K mg C) (k_is_hinge_of : Kn_is_hinge_of P w K mg base C) {f : Addr} {fd : FuncData} (Fd : FnP K "hinge_of" st_hinge_of f fd) : FnOk P w K mg base CX0 10 f fd ["guess", "other"] (sp_hinge_of C) := by
  refine fn_pr Fd sc_hinge_of (fun u => by first | rfl | (cases u <;> rfl)) (fun _ => False) (fun _ _ h => h.elim) (fun X u E hX hp hE => ?_)
  obtain ⟨cdv, A, outer, s, H, E', rfl, hr⟩ := hX
  refine PSs.nox ?_
  have nd := (sc_hinge_of).nd
  replace hr : Room 9 (cxOf CX0 P w K mg base N_hinge_of "hinge_of" (defScope st_hinge_of) f cdv A outer s H E').nox.A := hr
  obtain ⟨g, o⟩ := u
  obtain ⟨h1, h2, h3⟩ : SzG g ∧ SzG o ∧ ∀ p ∈ o, ¬ aboveR o p.2 < aboveR g p.2 := hp
  refine js_cons (N1 := fun G => ∃ s t, G = [.fz (IsGQ C g), .fz (IsGQ C o), s, t]) (js_for PassesOwn.never rfl (ji_list (Rx := IsPq C) (xs := o) (pi_list (jv 1))) (fun x => jg2 2 3 nd) (fun i G => ∃ s t, G = [.fz (IsGQ C g), .fz (IsGQ C o), s, t]) ⟨_, _, rfl⟩ ?_ (fun G1 h => h)) ?_
  · rintro i p G1 hi ⟨s, t, rfl⟩
    have hm := List.mem_of_getElem? hi
    refine js_one (js_if (b1 := false) (jt_eq (jt_val (pt_val (jc k_is_hinge_of hr (g, o, p.2) (ja_cons (jv 0) (ja_cons (jv 1) (ja_cons (jv 3 (R := IsQ C p.2)) ja_nil))) ⟨h1, h2, (h2.z p hm).2⟩))) (decide_eq_false (h3 p hm))) (fun h => nomatch h) (fun _ => js_nil ⟨_, _, rfl⟩))
  · rintro _ ⟨s, t, rfl⟩
    exact js_one (js_ret jNon)
abbrev sp_is_less_spread (C : Addr) : Sp := Pr (ι := List (Rat × Rat) × List (Rat × Rat)) (fun w => [IsSG C w.1, IsSG C w.2]) (fun w => GuessP w.1 ∧ GuessP w.2 ∧ ∀ p ∈ w.2, ¬ aboveR w.2 p.2 < aboveR w.1 p.2) (fun w => IsB true)
abbrev Kn_is_less_spread (P : Program) (w : World) (K : PySem.W.Frag) (mg : Str → Option Value) (base : Heap) (C : Addr) : Prop := Kn P w K mg base "is_less_spread" 11 ["guess", "other"] (sp_is_less_spread C)
theorem ok_is_less_spread (Z : Glo K mg C) (k_want_guess : Kn_want_guess P w K mg base C) (k_hinge_of : Kn_hinge_of P w K mg base C) {f : Addr} {fd : FuncData} (Fd : FnP K "is_less_spread" st_is_less_spread f fd) : FnOk P w K mg base CX0 11 f fd ["guess", "other"] (sp_is_less_spread C) := by
  refine fn_pr Fd sc_is_less_spread (fun u => by first | rfl | (cases u <;> rfl)) (fun _ => False) (fun _ _ h => h.elim) (fun X u E hX hp hE => ?_)
  obtain ⟨cdv, A, outer, s, H, E', rfl, hr⟩ := hX
  refine PSs.nox ?_
  have nd := (sc_is_less_spread).nd
  replace hr : Room 10 (cxOf CX0 P w K mg base N_is_less_spread "is_less_spread" (defScope st_is_less_spread) f cdv A outer s H E').nox.A := hr
  obtain ⟨g, o⟩ := u
  obtain ⟨h1, h2, h3⟩ : GuessP g ∧ GuessP o ∧ ∀ p ∈ o, ¬ aboveR o p.2 < aboveR g p.2 := hp
  refine js_seq (js_par (i := 2) (j := 3) (Ra := IsGQ C g) (Rb := IsGQ C o) (ps_par (i := 2) (j := 3) rfl nd rfl rfl (by decide) rfl rfl (pa_cons (jc k_want_guess (hr.mono (by decide)) g (ja_cons (jv 0) ja_nil) h1) (pa_cons (jc k_want_guess (hr.mono (by decide)) o (ja_cons (jv 1) ja_nil) h2) pa_nil)) rfl)) ?_
  exact js_one (js_ret (je_op (pe_cmpR op_isN (jc k_hinge_of hr (g, o) (ja_cons (jv 2) (ja_cons (jv 3) ja_nil)) ⟨h1.szg, h2.szg, h3⟩) jNon (nomark _)) (rop_isN (fun v F h => by rw [show v = V.non from h]; rfl))))
end
end Gw
set_option maxHeartbeats 4000000
/-! == of lists of lists of Ratios; calls by keywords; the pot handed on. -/
namespace Gw
open PySem PySem.Spec PyProof.Rows L2
def EqQ (C : Addr) (a b : Addr) (H : Hp) : Prop := ∃ q dx dy, H a = some (.ins C dx (qFs q)) ∧ H b = some (.ins C dy (qFs q))
section
variable {X : Cx} {E : En} {G : List Sl} {a b e : Expr} {es : List Expr} {p pos : Pos} {C : Addr} {k : Nat}
theorem eqQ_ext {C : Addr} : ∀ a b H H', Ext H H' → EqQ C a b H → EqQ C a b H' := fun a b H H' e ⟨q, dx, dy, h1, h2⟩ => ⟨q, dx, dy, e _ _ h1, e _ _ h2⟩
theorem sp_eqQ {vs : List V} {H : Hp} {Q : VK} {E' : XK} (h : spEq (EqQ C) vs H Q E') : spEqQ C vs H Q E' := by
  obtain ⟨a, b, rfl, ⟨q, dx, dy, h1, h2⟩, kq⟩ := h
  refine ⟨H, (q, q), ⟨Ex.refl H, fun _ h => nomatch h⟩, .cons (IsQ.up ⟨a, dx, rfl, h1⟩) (.cons (IsQ.up ⟨b, dy, rfl, h2⟩) .nil), trivial, fun v F' H' g u => ?_⟩
  have e : v = .bl (decide (q = q)) := u.here
  rw [e, decide_eq_true rfl]
  exact kq H' fun x o h => g.k x o h (fun z => nomatch z)
theorem prs_of {α : Type} {R : α → V → Hp → Prop} {D : Eqv} {F H : Hp} (hD : ∀ x v w, Up (R x) v F → Up (R x) w F → D v w H) : ∀ {xs : List α} {vs ws : List V}, LsOf R xs vs F → LsOf R xs ws F → Prs D vs ws H
  | [], [], [], _, _ => Prs.nil
  | x :: xs, v :: vs, w :: ws, .cons r t, .cons r' t' => Prs.cons (hD x v w r r') (prs_of hD t t')
theorem jeqMM {M : List (List Rat)} (T : EqK X.prog X.w X.K X.mg X.base C k) (hr : Room (k + 2) X.A) (ha : PE X a (tE E G (IsL (IsL (IsQ C)) M))) (hb : PE X b (tE E G (IsL (IsL (IsQ C)) M))) : PE X (.Compare a [.Eq] [b] pos) (tE E G (IsB true)) := by
  obtain ⟨f, fd, h1, h2, h3, h4, ok, bd⟩ := T
  have F1 := ok.imp (fun vs H Q E' h => sp_eqQ (C := C) (E' := E') h)
  have m1 : Mon (DIns C (EqQ C)) := mon_ins eqQ_ext
  have e1 : EqG X k (DIns C (EqQ C)) := eqG_ins F1 h1 h2 bd (pass00 (E' := E0))
  have e2 := eqG_list m1 e1
  have e3 := rcG_list (mon_list m1) e2
  refine je_op (pe_cmpR (op_eqG e3 hr) ha hb (nomark _)) (fun x y F H Q okk u1 u2 kq => ?_)
  obtain ⟨p, vs, rfl, hp, up⟩ := u1.here
  obtain ⟨q, ws, rfl, hq, uq⟩ := u2.here
  refine ⟨⟨p, q, vs, ws, rfl, rfl, okk.s _ _ hp, okk.s _ _ hq, prs_of (R := IsL (IsQ C)) (fun r v w a1 a2 => ?_) up.here uq.here⟩, fun H' ext => kq _ F H' ⟨Ex.refl F, fun x o h => ext _ _ (okk.s _ _ h), fun x o h _ => ext _ _ h, fun x o h => .inl h, fun x hx => ?_⟩ (fun _ _ => rfl)⟩
  · obtain ⟨p', vs', rfl, hp', up'⟩ := a1.here
    obtain ⟨q', ws', rfl, hq', uq'⟩ := a2.here
    refine ⟨p', q', vs', ws', rfl, rfl, okk.s _ _ hp', okk.s _ _ hq', prs_of (R := IsQ C) (fun r v w b1 b2 => ?_) up'.here uq'.here⟩
    obtain ⟨x, dx, rfl, hx⟩ := b1.here
    obtain ⟨y, dy, rfl, hy⟩ := b2.here
    exact ⟨x, y, dx, dy, _, _, rfl, rfl, okk.s _ _ hx, okk.s _ _ hy, r, dx, dy, okk.s _ _ hx, okk.s _ _ hy⟩
  · obtain ⟨q1, i, j, q2, q3⟩ := okk.p x hx
    exact ⟨q1, i, j, ext _ _ q2, q3⟩
/-! ### keywords -/
def KnK (P : Program) (w : World) (K : PySem.W.Frag) (mg : Str → Option Value) (base : Heap) (x : Str) (k : Nat) (ps : List Str) (sp : Sp) (n : Nat) (ks : List Str) (gV : List V → List V → List V) : Prop :=
  ∃ (f : Addr) (fd : FuncData) (g : List Value → List Value → List Value), mg x = some (.ref f) ∧ PySem.W.keepIn K (.ref f) = true ∧ KBn K fd ps n ks g gV ∧ FnOk P w K mg base CX0 k f fd ps sp
variable {ι : Type} {Rs : ι → List (V → Hp → Prop)} {pre : ι → Prop} {x : Str} {ps ks : List Str} {Rf : ι → V → Hp → Prop} {kws : List Keyword} {n : Nat} {gV : List V → List V → List V} {R1 R2 : List (V → Hp → Prop)} {R : V → Hp → Prop}
theorem jcK (T : KnK X.prog X.w X.K X.mg X.base x k ps (Pr Rs pre Rf) n ks gV) (hr : Room k X.A) (w : ι) (ha : PA X (e :: es) (tA E G R1)) (hkw : PK X kws (tA E G R2)) (h1 : R1.length = n) (h2 : R2.length = ks.length) (hg : ∀ vs ws F, Args R1 vs F → Args R2 ws F → Args (Rs w) (gV vs ws) F) (hp : pre w) (hR : Rf w = R := by exact rfl) (hgl : Gl X x := by rfl)
    (hall : (backToKw pos (keywordEach kws X.env)).all (·.1.isSome) = true := by rfl) (hks : (backToKw pos (keywordEach kws X.env)).filterMap (·.1) = ks := by rfl)
    (hdb : (x == ("__debug__" : Str)) = false := by decide) (he : starEach (e :: es) X.env = (false, eval e X.env) :: starEach es X.env := by rfl)
    (hpl : ((backTo pos (starEach (e :: es) X.env)).any (·.1) || (backToKw pos (keywordEach kws X.env)).any (·.1.isNone)) = false := by rfl) : PE X (.Call (.Name x p) (e :: es) kws pos) (tE E G R) := by
  subst hR
  obtain ⟨f, fd, g, m, kp, kb, ok⟩ := T
  refine PE_imp (pe_callN (E := E0) ok hr hgl m kp kb pass0 ha hkw hall hks hdb he hpl) fun σ H Q ⟨F, S, kq⟩ => ⟨F, S, fun vs F1 H1 g1 a1 => ⟨F1, S.gr g1, fun ws F2 H2 g2 a2 => ⟨by rw [← a1.len, h1], by rw [← a2.len, h2], ?_⟩⟩⟩
  have gg := g1.trans g2
  exact ⟨F2, w, gg.ok.none, hg vs ws F2 (a1.mono g2.f) a2, hp, fun v F' H' g' u => kq v F' H' (gg.trans (g'.lift gg.ok)) u⟩
theorem pe_callN0 {sp : Sp} {f : Addr} {fd : FuncData} {g : List Value → List Value → List Value} {tk : TA} (F : FnOk X.prog X.w X.K X.mg X.base CX0 k f fd ps sp) (hr : Room k X.A) (hg : Gl X x) (hm : X.mg x = some (.ref f)) (hk : PySem.W.keepIn X.K (.ref f) = true) (hb : KBn X.K fd ps 0 ks g gV)
    (hkw : PK X kws tk) (hall : (backToKw pos (keywordEach kws X.env)).all (·.1.isSome) = true := by rfl) (hks : (backToKw pos (keywordEach kws X.env)).filterMap (·.1) = ks := by rfl)
    (hdb : (x == ("__debug__" : Str)) = false := by decide)
    (hpl : ((backTo pos (starEach [] X.env)).any (·.1) || (backToKw pos (keywordEach kws X.env)).any (·.1.isNone)) = false := by rfl) :
    PE X (.Call (.Name x p) [] kws pos) (fun σ H Q => tk σ H fun zs H2 => zs.length = ks.length ∧ sp (gV [] zs) H2 Q E0) := by
  refine ⟨fun pins s σ H Q I h => ?_⟩
  refine wpAny_Call_Name_kw (ld_glob I hg hm ?_ hdb)
  refine PySem.W.callWith_KW0 (h₀ := X.base) I.ok.mod.kin hk hall ?_ hpl
  refine thn (hkw.run pos pins s σ H _ I h) fun ws s2 ⟨zs, H2, I2, rz, l2, q2⟩ => ⟨I2.kIn, ?_⟩
  rw [hks]
  exact run_fnN (us := []) (vs := []) F hr hb pass0 I2 .nil rz rfl l2 q2
theorem jcK0 (T : KnK X.prog X.w X.K X.mg X.base x k ps (Pr Rs pre Rf) 0 ks gV) (hr : Room k X.A) (w : ι) (hkw : PK X kws (tA E G R2)) (h2 : R2.length = ks.length) (hg : ∀ ws F, Args R2 ws F → Args (Rs w) (gV [] ws) F) (hp : pre w) (hR : Rf w = R := by exact rfl) (hgl : Gl X x := by rfl)
    (hall : (backToKw pos (keywordEach kws X.env)).all (·.1.isSome) = true := by rfl) (hks : (backToKw pos (keywordEach kws X.env)).filterMap (·.1) = ks := by rfl)
    (hdb : (x == ("__debug__" : Str)) = false := by decide)
    (hpl : ((backTo pos (starEach [] X.env)).any (·.1) || (backToKw pos (keywordEach kws X.env)).any (·.1.isNone)) = false := by rfl) : PE X (.Call (.Name x p) [] kws pos) (tE E G R) := by
  subst hR
  obtain ⟨f, fd, g, m, kp, kb, ok⟩ := T
  refine PE_imp (pe_callN0 ok hr hgl m kp kb hkw hall hks hdb hpl) fun σ H Q ⟨F, S, kq⟩ => ⟨F, S, fun ws F2 H2 g2 a2 => ⟨by rw [← a2.len, h2], ?_⟩⟩
  exact ⟨F2, w, g2.ok.none, hg ws F2 a2, hp, fun v F' H' g' u => kq v F' H' (g2.trans (g'.lift g2.ok)) u⟩
/-! ### f(g(..)) where g makes the pot -/
theorem je_newpot {fR : V → Hp → Prop} {Rl : List V → Hp → Prop} {e1 : Expr} (T : Kn X.prog X.w X.K X.mg X.base x k ps (PrP (ι := Unit) (fun _ => []) (fun _ => True) (fun _ => fR))) (hr : Room k X.A) (hE : E.pp = none) (hP : ∀ vs F, Rl vs F → ∃ i j : Int, vs = [.int i, .int j] ∧ 0 ≤ i ∧ 0 ≤ j ∧ j < 2 ^ 40) (ha : PE X e1 (tM E G Rl)) (hpl' : ∀ v F F', fR v F → fR v F') (hg : Gl X x := by rfl) (hdb : (x == ("__debug__" : Str)) = false := by decide)
    (he : starEach [e1] X.env = (false, eval e1 X.env) :: starEach [] X.env := by rfl) : PE X (.Call (.Name x p) [e1] [] pos) (tE E G fR) := by
  obtain ⟨f, fd, g, kp, b, ok⟩ := T
  refine PE_imp (pe_call (E := E0) ok hr hg g kp b .nil pass0 (pa_cons ha pa_nil he) hdb he (by rfl)) fun σ H Q ⟨F, S, kq⟩ => ⟨F, S, fun q ws F1 H1 g1 n1 n2 n3 u => ?_⟩
  obtain ⟨i, j, rfl, hi, hj, hj2⟩ := hP ws F1 u.here
  refine ⟨F1, q, [], (), rfl, ⟨g1.s, fun a ha => ?_⟩, .nil, trivial, fun v F' H' g2 u2 => kq v F' H' ?_ (fun F'' _ => hpl' v F' F'' u2.here)⟩
  · cases ha
    exact ⟨n2, i, j, n3, hi, hj, hj2⟩
  · rw [hE] at g1 ⊢
    exact {
      f := g1.f.trans g2.f
      s := g2.s
      k := fun a o h _ => g2.k a o (g1.k a o h (fun z => nomatch z)) (fun z => by
        have : a = q := (Option.some.inj z).symm
        rw [this, n1] at h
        cases h)
      n := fun a o h => by
        rcases g2.n a o h with w | w
        · exact g1.n a o w
        · exact .inr (g1.back w)
      p := fun _ z => nomatch z }
end
end Gw
set_option maxHeartbeats 4000000
/-! == and != of lists and tuples with items of own kinds, told either way. -/
namespace GwE
open PySem PySem.SeqAt
open AutoSeq1 (wpAny_loadPart')
open MeetsSeq MeetsSeq2 MeetsSeq3 SeqRoads2
section
variable {prog : Program} {w : World} {A : Around} {R : Result → Shared → Prop}
def ListE (prog : Program) (w : World) (A : Around) (E : Value → Shared → Prop) (l b : Addr) (N : Nat) (e : Nat → Bool) (I : Nat → Shared → Prop) : Prop :=
  ∀ i s, I i s → ∃ (items items2 : Array Value) (n n2 : Nat), s.heap.get? l = some { cls := .type "list", data := .seq items n } ∧ s.heap.get? b = some { cls := .type "list", data := .seq items2 n2 } ∧ items.size = N ∧ items2.size = N ∧
    ∀ (h1 : i < items.size) (h2 : i < items2.size), wpAny (model prog w) A.in1 (eqBool items[i] items2[i]) (fun r s' => r = e i ∧ I (i + 1) s') E s
theorem eq_loopE (l b : Addr) (N : Nat) (e : Nat → Bool) (I : Nat → Shared → Prop) (hl : ListE prog w A (fun e s' => R (.error e) s') l b N e I)
    (fin : ∀ s, (∀ j, j < N → e j = true) → I N s → R (.ok (.ret (.bool true))) s) (out : ∀ i s, i < N → e i = false → I (i + 1) s → R (.ok (.ret (.bool false))) s) (k : Nat) :
    ∀ i : Nat, N - i = k → i ≤ N → (∀ j, j < i → e j = true) → ∀ s, I i s →
      wpAny (model prog w) A.in1 (Builtin.«list.__eq__.loop» ⟨[.ref l, .ref b, rawInt i, rawInt 2], []⟩) (GQ.FinOf prog w A R) (fun e s' => R (.error e) s') s := by
  induction k with
  | zero =>
    intro i hk hi hb0 s h
    obtain ⟨items, items2, n, n2, hl1, hb1, hs1, hs2, _⟩ := hl _ _ h
    have hi' : i = N := by omega
    have hR : R (.ok (.ret (.bool true))) s := fin s (fun j hj => hb0 j (by omega)) (hi' ▸ h)
    obtain ⟨hp, g, d, tk, os⟩ := s
    wp_walk using wpAny_loadPart' hl1, wpAny_loadPart' hb1
    have hi1 : items[((i : Nat) : Int).toNat]? = none := by simp; omega
    have hi2 : items2[((i : Nat) : Int).toNat]? = none := by simp; omega
    rw [hi1, hi2]
    wp_walk using wpAny_loadPart' hl1, wpAny_loadPart' hb1
    show R (.ok (.ret (.bool (items.size == items2.size)))) _
    rw [hs1, hs2]
    simpa using hR
  | succ k ih =>
    intro i hk hi hb0 s h
    obtain ⟨items, items2, n, n2, hl1, hb1, hs1, hs2, turn⟩ := hl _ _ h
    have hlt : i < items.size := by omega
    have hlt2 : i < items2.size := by omega
    have ht := turn hlt hlt2
    obtain ⟨hp, g, d, tk, os⟩ := s
    wp_walk using wpAny_loadPart' hl1, wpAny_loadPart' hb1
    have hi1 : items[((i : Nat) : Int).toNat]? = some items[i] := by simp [hlt]
    have hi2 : items2[((i : Nat) : Int).toNat]? = some items2[i] := by simp [hlt2]
    have hc : ((i : Int) + 1) = ((i + 1 : Nat) : Int) := by omega
    rw [hi1, hi2]
    refine wpAny_bind (wpAny_mono ht (fun r s2 h2 => ?_) fun _ _ x => x)
    obtain ⟨hr, h2⟩ := h2
    cases he : e i with
    | true =>
      rw [he] at hr
      subst hr
      have hrec := ih (i + 1) (by omega) (by omega) (fun j hj => by
        by_cases q : j = i
        · rw [q]; exact he
        · exact hb0 j (by omega)) s2 h2
      obtain ⟨hp2, g2, d2, tk2, os2⟩ := s2
      wp_walk
      rw [hc]
      exact ⟨plainId_quiet plain_eq_loop _, codeAny_builtin entry_eq_loop (by
        rw [Around.under_plainId plain_eq_loop _]
        exact hrec)⟩
    | false =>
      rw [he] at hr
      subst hr
      have hR := out i s2 (by omega) he h2
      obtain ⟨it3, it4, n3, n4, hl3, hb3, hs3, hs4, _⟩ := hl _ _ h2
      obtain ⟨hp2, g2, d2, tk2, os2⟩ := s2
      wp_walk using wpAny_loadPart' hl3, wpAny_loadPart' hb3
      have hj1 : it3[((i : Nat) : Int).toNat]? = some it3[i] := by
        have : i < it3.size := by omega
        simp [this]
      have hj2 : it4[((i : Nat) : Int).toNat]? = some it4[i] := by
        have : i < it4.size := by omega
        simp [this]
      rw [hj1, hj2]
      wp_walk
      simpa using hR
theorem ne_loopE (l b : Addr) (N : Nat) (e : Nat → Bool) (I : Nat → Shared → Prop) (hl : ListE prog w A (fun e s' => R (.error e) s') l b N e I)
    (fin : ∀ s, (∀ j, j < N → e j = true) → I N s → R (.ok (.ret (.bool false))) s) (out : ∀ i s, i < N → e i = false → I (i + 1) s → R (.ok (.ret (.bool true))) s) (k : Nat) :
    ∀ i : Nat, N - i = k → i ≤ N → (∀ j, j < i → e j = true) → ∀ s, I i s →
      wpAny (model prog w) A.in1 (Builtin.«list.__eq__.loop» ⟨[.ref l, .ref b, rawInt i, rawInt 3], []⟩) (GQ.FinOf prog w A R) (fun e s' => R (.error e) s') s := by
  induction k with
  | zero =>
    intro i hk hi hb0 s h
    obtain ⟨items, items2, n, n2, hl1, hb1, hs1, hs2, _⟩ := hl _ _ h
    have hi' : i = N := by omega
    have hR : R (.ok (.ret (.bool false))) s := fin s (fun j hj => hb0 j (by omega)) (hi' ▸ h)
    obtain ⟨hp, g, d, tk, os⟩ := s
    wp_walk using wpAny_loadPart' hl1, wpAny_loadPart' hb1
    have hi1 : items[((i : Nat) : Int).toNat]? = none := by simp; omega
    have hi2 : items2[((i : Nat) : Int).toNat]? = none := by simp; omega
    rw [hi1, hi2]
    wp_walk using wpAny_loadPart' hl1, wpAny_loadPart' hb1
    show R (.ok (.ret (.bool (items.size != items2.size)))) _
    rw [hs1, hs2]
    simpa using hR
  | succ k ih =>
    intro i hk hi hb0 s h
    obtain ⟨items, items2, n, n2, hl1, hb1, hs1, hs2, turn⟩ := hl _ _ h
    have hlt : i < items.size := by omega
    have hlt2 : i < items2.size := by omega
    have ht := turn hlt hlt2
    obtain ⟨hp, g, d, tk, os⟩ := s
    wp_walk using wpAny_loadPart' hl1, wpAny_loadPart' hb1
    have hi1 : items[((i : Nat) : Int).toNat]? = some items[i] := by simp [hlt]
    have hi2 : items2[((i : Nat) : Int).toNat]? = some items2[i] := by simp [hlt2]
    have hc : ((i : Int) + 1) = ((i + 1 : Nat) : Int) := by omega
    rw [hi1, hi2]
    refine wpAny_bind (wpAny_mono ht (fun r s2 h2 => ?_) fun _ _ x => x)
    obtain ⟨hr, h2⟩ := h2
    cases he : e i with
    | true =>
      rw [he] at hr
      subst hr
      have hrec := ih (i + 1) (by omega) (by omega) (fun j hj => by
        by_cases q : j = i
        · rw [q]; exact he
        · exact hb0 j (by omega)) s2 h2
      obtain ⟨hp2, g2, d2, tk2, os2⟩ := s2
      wp_walk
      rw [hc]
      exact ⟨plainId_quiet plain_eq_loop _, codeAny_builtin entry_eq_loop (by
        rw [Around.under_plainId plain_eq_loop _]
        exact hrec)⟩
    | false =>
      rw [he] at hr
      subst hr
      have hR := out i s2 (by omega) he h2
      obtain ⟨it3, it4, n3, n4, hl3, hb3, hs3, hs4, _⟩ := hl _ _ h2
      obtain ⟨hp2, g2, d2, tk2, os2⟩ := s2
      wp_walk using wpAny_loadPart' hl3, wpAny_loadPart' hb3
      have hj1 : it3[((i : Nat) : Int).toNat]? = some it3[i] := by
        have : i < it3.size := by omega
        simp [this]
      have hj2 : it4[((i : Nat) : Int).toNat]? = some it4[i] := by
        have : i < it4.size := by omega
        simp [this]
      rw [hj1, hj2]
      wp_walk
      simpa using hR
theorem list_eqE (l b : Addr) (N : Nat) (e : Nat → Bool) (I : Nat → Shared → Prop) (hl : ListE prog w A (fun e s' => R (.error e) s') l b N e I)
    (fin : ∀ s, (∀ j, j < N → e j = true) → I N s → R (.ok (.ret (.bool true))) s) (out : ∀ i s, i < N → e i = false → I (i + 1) s → R (.ok (.ret (.bool false))) s) {s : Shared} (h : I 0 s) :
    wpAny (model prog w) A.in1 (Builtin.«list.__eq__» ⟨[.ref l, .ref b], []⟩) (GQ.FinOf prog w A R) (fun e s' => R (.error e) s') s := by
  obtain ⟨items, items2, n, n2, hl1, hb1, hs1, hs2, _⟩ := hl _ _ h
  have hrec := eq_loopE (A := A) (R := R) l b N e I hl fin out _ 0 rfl (Nat.zero_le _) (fun j hj => by omega) s h
  obtain ⟨hp, g, d, tk, os⟩ := s
  have f3 := AutoSeq1.sub_list_list
  have hne : ¬ (items.size != items2.size) = true := by simp [hs1, hs2]
  wp_walk using wpAny_loadPart' hl1, wpAny_loadPart' hb1
  exact ⟨plainId_quiet plain_eq_loop _, codeAny_builtin entry_eq_loop (by
    rw [Around.under_plainId plain_eq_loop _]
    exact hrec)⟩
theorem list_neE (l b : Addr) (N : Nat) (e : Nat → Bool) (I : Nat → Shared → Prop) (hl : ListE prog w A (fun e s' => R (.error e) s') l b N e I)
    (fin : ∀ s, (∀ j, j < N → e j = true) → I N s → R (.ok (.ret (.bool false))) s) (out : ∀ i s, i < N → e i = false → I (i + 1) s → R (.ok (.ret (.bool true))) s) {s : Shared} (h : I 0 s) :
    wpAny (model prog w) A.in1 (Builtin.«list.__ne__» ⟨[.ref l, .ref b], []⟩) (GQ.FinOf prog w A R) (fun e s' => R (.error e) s') s := by
  obtain ⟨items, items2, n, n2, hl1, hb1, hs1, hs2, _⟩ := hl _ _ h
  have hrec := ne_loopE (A := A) (R := R) l b N e I hl fin out _ 0 rfl (Nat.zero_le _) (fun j hj => by omega) s h
  obtain ⟨hp, g, d, tk, os⟩ := s
  have f3 := AutoSeq1.sub_list_list
  have hne : ¬ (items.size != items2.size) = true := by simp [hs1, hs2]
  wp_walk using wpAny_loadPart' hl1, wpAny_loadPart' hb1
  exact ⟨plainId_quiet plain_eq_loop _, codeAny_builtin entry_eq_loop (by
    rw [Around.under_plainId plain_eq_loop _]
    exact hrec)⟩
theorem list_eqL (l b : Addr) (items items2 : Array Value) (n n2 : Nat) (hne : (items.size != items2.size) = true) {s : Shared} (hl1 : s.heap.get? l = some { cls := .type "list", data := .seq items n }) (hb1 : s.heap.get? b = some { cls := .type "list", data := .seq items2 n2 })
    (h : R (.ok (.ret (.bool false))) s) : wpAny (model prog w) A.in1 (Builtin.«list.__eq__» ⟨[.ref l, .ref b], []⟩) (GQ.FinOf prog w A R) (fun e s' => R (.error e) s') s := by
  obtain ⟨hp, g, d, tk, os⟩ := s
  have f3 := AutoSeq1.sub_list_list
  wp_walk using wpAny_loadPart' hl1, wpAny_loadPart' hb1
  exact h
theorem tuple_eqE (l b : Addr) (items items2 : Array Value) (n n2 : Nat) (dd dd2 : Option Addr) (sl sl2 : Array (Option Value)) (hsz : items.size = items2.size) (e : Nat → Bool) (I : Nat → Shared → Prop)
    (turn : ∀ i (h1 : i < items.size) (h2 : i < items2.size) s, I i s → wpAny (model prog w) A.in1 (eqBool items[i] items2[i]) (fun r s' => r = e i ∧ I (i + 1) s') (fun e s' => R (.error e) s') s)
    (fin : ∀ s, (∀ j, j < items.size → e j = true) → I items.size s → R (.ok (.ret (.bool true))) s) (out : ∀ i s, i < items.size → e i = false → I (i + 1) s → R (.ok (.ret (.bool false))) s) {s : Shared} (hl1 : s.heap.get? l = some { cls := .type "tuple", dict := dd, data := .seq items n, slots := sl }) (hb1 : s.heap.get? b = some { cls := .type "tuple", dict := dd2, data := .seq items2 n2, slots := sl2 }) (h : I 0 s) :
    wpAny (model prog w) A.in1 (Builtin.«tuple.__eq__» ⟨[.ref l, .ref b], []⟩) (GQ.FinOf prog w A R) (fun e s' => R (.error e) s') s := by
  have f2 := AutoSeq1.sub_tuple_tuple
  have hZ : (items.toList.zip items2.toList).length = items.size := by simp [hsz]
  have h0 := h
  obtain ⟨hp, g, d, tk, os⟩ := s
  wp_walk using wpAny_loadPart' hl1, wpAny_loadPart' hb1, wpAny_forIn_list _ (fun rest b s' => b.1 = none ∧ ∃ i, rest = (items.toList.zip items2.toList).drop i ∧ i ≤ items.size ∧ (∀ j, j < i → e j = true) ∧ I i s') _
  case turn =>
    rintro ⟨y, x⟩ rest b s' ⟨hb', i, hz, hi, hj, hI⟩
    have hlt : i < (items.toList.zip items2.toList).length := by
      rcases Nat.lt_or_ge i (items.toList.zip items2.toList).length with h' | h'
      · exact h'
      · rw [List.drop_of_length_le h'] at hz; cases hz
    have h1 : i < items.size := hZ ▸ hlt
    have h2 : i < items2.size := hsz ▸ h1
    rw [List.drop_eq_getElem_cons hlt] at hz
    injection hz with hyx hrest
    have hy : y = items[i] := by have := congrArg Prod.fst hyx; simpa using this
    have hx : x = items2[i] := by have := congrArg Prod.snd hyx; simpa using this
    subst hy hx
    refine wpAny_bind (wpAny_mono (turn i h1 h2 s' hI) (fun r s2 q2 => ?_) fun _ _ x => x)
    obtain ⟨hr, q2⟩ := q2
    cases he : e i with
    | true =>
      rw [he] at hr
      subst hr
      wp_walk
      exact ⟨rfl, i + 1, hrest, h1, fun j hj' => by
        by_cases q : j = i
        · rw [q]; exact he
        · exact hj j (by omega), q2⟩
    | false =>
      rw [he] at hr
      subst hr
      have hR := out i s2 h1 he q2
      wp_walk
      exact hR
  case fin =>
    rintro ⟨b1, b2⟩ s' ⟨hb', i, hz, hi, hj, hI⟩
    simp only at hb'
    subst hb'
    have hge : items.size ≤ i := by
      rcases Nat.lt_or_ge i (items.toList.zip items2.toList).length with h' | h'
      · rw [List.drop_eq_getElem_cons h'] at hz; cases hz
      · exact hZ ▸ h'
    have hi' : i = items.size := by omega
    have hR : R (.ok (.ret (.bool true))) s' := fin s' (fun j hj' => hj j (by omega)) (hi' ▸ hI)
    wp_walk
    simpa [Builtin.Tuple.tupleCompareSizes, hsz] using hR
  case h =>
    exact ⟨rfl, 0, rfl, Nat.zero_le _, fun j hj => by omega, h0⟩
end
end GwE
set_option maxHeartbeats 4000000
/-! == and != told either way, over the hand layer. -/
namespace GwE
open PySem PySem.SeqAt
open AutoSeq1 (wpAny_loadPart')
open MeetsSeq MeetsSeq2 MeetsSeq3 SeqRoads2
section
variable {prog : Program} {w : World} {A : Around} {E : Value → Shared → Prop} {s : Shared}
theorem rc_listE {l b : Addr} {N : Nat} {Q : Value → Shared → Prop} (hu : A.units < cLine) (e : Nat → Bool) (I : Nat → Shared → Prop) (hl : ListE prog w A E l b N e I)
    (fin : ∀ s, (∀ j, j < N → e j = true) → I N s → Q (.bool true) s) (out : ∀ i s, i < N → e i = false → I (i + 1) s → Q (.bool false) s) (h : I 0 s) : wpAny (model prog w) A (richCompare .Eq (.ref l) (.ref b)) Q E s := by
  obtain ⟨items, items2, n, n2, hl1, hb1, _, _, _⟩ := hl _ _ h
  refine wpAny_richCompare_same_room (op := .Eq) ⟨_, hl1, rfl⟩ ⟨_, hb1, rfl⟩ F.slot_list_eq (GQ.call_here F.slot_list_eq ⟨_, hl1, rfl⟩ F.entry_list_eq (F.args_list_eq_2 _ _) ?_) hu
  exact list_eqE (R := wants (fun v s' => v ≠ .notImplemented ∧ Q v s') E) l b N e I hl (fun s' z q => ⟨(fun x => nomatch x), fin s' z q⟩) (fun i s' a z q => ⟨(fun x => nomatch x), out i s' a z q⟩) h
theorem rc_listNE {l b : Addr} {N : Nat} {Q : Value → Shared → Prop} (hu : A.units < cLine) (e : Nat → Bool) (I : Nat → Shared → Prop) (hl : ListE prog w A E l b N e I)
    (fin : ∀ s, (∀ j, j < N → e j = true) → I N s → Q (.bool false) s) (out : ∀ i s, i < N → e i = false → I (i + 1) s → Q (.bool true) s) (h : I 0 s) : wpAny (model prog w) A (richCompare .NotEq (.ref l) (.ref b)) Q E s := by
  obtain ⟨items, items2, n, n2, hl1, hb1, _, _, _⟩ := hl _ _ h
  refine wpAny_richCompare_same_room (op := .NotEq) ⟨_, hl1, rfl⟩ ⟨_, hb1, rfl⟩ F.slot_list_ne (GQ.call_here F.slot_list_ne ⟨_, hl1, rfl⟩ F.entry_list_ne (F.args_list_ne_2 _ _) ?_) hu
  exact list_neE (R := wants (fun v s' => v ≠ .notImplemented ∧ Q v s') E) l b N e I hl (fun s' z q => ⟨(fun x => nomatch x), fin s' z q⟩) (fun i s' a z q => ⟨(fun x => nomatch x), out i s' a z q⟩) h
theorem rc_listL {l b : Addr} {items items2 : Array Value} {n n2 : Nat} {Q : Value → Shared → Prop} (hu : A.units < cLine) (hne : (items.size != items2.size) = true) (hl1 : s.heap.get? l = some { cls := .type "list", data := .seq items n }) (hb1 : s.heap.get? b = some { cls := .type "list", data := .seq items2 n2 })
    (h : Q (.bool false) s) : wpAny (model prog w) A (richCompare .Eq (.ref l) (.ref b)) Q E s := by
  refine wpAny_richCompare_same_room (op := .Eq) ⟨_, hl1, rfl⟩ ⟨_, hb1, rfl⟩ F.slot_list_eq (GQ.call_here F.slot_list_eq ⟨_, hl1, rfl⟩ F.entry_list_eq (F.args_list_eq_2 _ _) ?_) hu
  exact list_eqL (R := wants (fun v s' => v ≠ .notImplemented ∧ Q v s') E) l b items items2 n n2 hne hl1 hb1 ⟨(fun x => nomatch x), h⟩
theorem rc_tupE {l b : Addr} {items items2 : Array Value} {Q : Value → Shared → Prop} (hsz : items.size = items2.size) (hu : A.units < cLine) (e : Nat → Bool) (I : Nat → Shared → Prop)
    (hl : s.heap.IsTuple l items) (hb : s.heap.IsTuple b items2)
    (turn : ∀ i (h1 : i < items.size) (h2 : i < items2.size) s, I i s → wpAny (model prog w) A.in1 (eqBool items[i] items2[i]) (fun r s' => r = e i ∧ I (i + 1) s') E s)
    (fin : ∀ s, (∀ j, j < items.size → e j = true) → I items.size s → Q (.bool true) s) (out : ∀ i s, i < items.size → e i = false → I (i + 1) s → Q (.bool false) s) (h : I 0 s) : wpAny (model prog w) A (richCompare .Eq (.ref l) (.ref b)) Q E s := by
  obtain ⟨⟨cls, dd, data, sl⟩, ho, hc, n, hd⟩ := id hl
  obtain ⟨⟨cls2, dd2, data2, sl2⟩, ho2, hc2, n2, hd2⟩ := id hb
  simp only at hc hd hc2 hd2
  subst hc hd hc2 hd2
  refine wpAny_richCompare_same_room (op := .Eq) ⟨_, ho, rfl⟩ ⟨_, ho2, rfl⟩ F.slot_tuple_eq (GQ.call_here F.slot_tuple_eq ⟨_, ho, rfl⟩ F.entry_tuple_eq (F.args_tuple_eq_2 _ _) ?_) hu
  exact tuple_eqE (R := wants (fun v s' => v ≠ .notImplemented ∧ Q v s') E) l b items items2 n n2 dd dd2 sl sl2 hsz e I turn (fun s' z q => ⟨(fun x => nomatch x), fin s' z q⟩) (fun i s' a z q => ⟨(fun x => nomatch x), out i s' a z q⟩) ho ho2 h
end
end GwE
namespace Gw
open PySem PySem.Spec PyProof.Rows L2
/-- how two values are seen to be equal or not, by the abstract heap -/
abbrev EqB := V → V → Hp → Bool → Prop
def MonB (D : EqB) : Prop := ∀ x y H H' b, Ext H H' → D x y H b → D x y H' b
def RflB (D : EqB) : Prop := ∀ x H b, D x x H b → b = true
def EqD (X : Cx) (n : Nat) (D : EqB) : Prop :=
  ∀ (A : Around) (pins : List (Addr × Obj)) (s : Shared) (σ : L2.St) (H : Hp) (x y : V) (u v : Value) (b : Bool), Sub X n A → Inv X pins σ H s → RelV x u → RelV y v → D x y H b →
    wpAny (model X.prog X.w) A (eqBool u v) (fun r s' => r = b ∧ ∃ H', Inv X pins σ H' s' ∧ Ext H H') X.xe s
def RcD (X : Cx) (n : Nat) (op : CmpOp) (D : EqB) : Prop :=
  ∀ (A : Around) (pins : List (Addr × Obj)) (s : Shared) (σ : L2.St) (H : Hp) (x y : V) (u v : Value) (b : Bool), Sub X n A → Inv X pins σ H s → RelV x u → RelV y v → D x y H b →
    wpAny (model X.prog X.w) A (richCompare op u v) (fun r s' => r = .bool b ∧ ∃ H', Inv X pins σ H' s' ∧ Ext H H') X.xe s
section
variable {X : Cx} {n m : Nat} {D : EqB}
def PrsB (D : EqB) (xs ys : List V) (H : Hp) (e : Nat → Bool) : Prop := ∀ (i : Nat) x y, xs[i]? = some x → ys[i]? = some y → D x y H (e i)
theorem turnB (hD : MonB D) (h : EqD X n D) {A : Around} (sb : Sub X (n + 1) A) {pins : List (Addr × Obj)} {σ : L2.St} {H : Hp} {xs ys : List V} {its its2 : List Value} {e : Nat → Bool} (p : PrsB D xs ys H e) (r : Vals xs its) (r2 : Vals ys its2)
    (i : Nat) (h1 : i < its.toArray.size) (h2 : i < its2.toArray.size) (s' : Shared) (l : LoopI X pins σ H s') :
    wpAny (model X.prog X.w) A.in1 (eqBool its.toArray[i] its2.toArray[i]) (fun r s2 => r = e i ∧ LoopI X pins σ H s2) X.xe s' := by
  obtain ⟨H1, I1, e1⟩ := l
  have g1 : its[i]? = some its.toArray[i] := by
    have h1' : i < its.length := by simpa using h1
    rw [List.getElem?_eq_getElem h1'] <;> simp
  have g2 : its2[i]? = some its2.toArray[i] := by
    have h2' : i < its2.length := by simpa using h2
    rw [List.getElem?_eq_getElem h2'] <;> simp
  have k1 : i < xs.length := by rw [r.length]; simpa using h1
  have k2 : i < ys.length := by rw [r2.length]; simpa using h2
  obtain ⟨u, hu, ru⟩ := r.get (List.getElem?_eq_getElem k1)
  obtain ⟨v, hv, rv⟩ := r2.get (List.getElem?_eq_getElem k2)
  rw [g1] at hu
  rw [g2] at hv
  rw [Option.some.inj hu, Option.some.inj hv]
  refine wpAny_mono (h A.in1 pins s' σ H1 _ _ u v _ sb.in1 I1 ru rv (hD _ _ _ _ _ e1 (p i _ _ (List.getElem?_eq_getElem k1) (List.getElem?_eq_getElem k2)))) (fun r s2 q => ?_) fun _ _ x => x
  obtain ⟨hr, H2, I2, e2⟩ := q
  exact ⟨hr, H2, I2, e1.trans e2⟩
/-- two lists, item by item -/
def DLs (D : EqB) : EqB := fun x y H b => ∃ a c xs ys, x = .ref a ∧ y = .ref c ∧ H a = some (.lst xs) ∧ H c = some (.lst ys) ∧ (xs.length ≠ ys.length → b = false) ∧ (xs.length = ys.length → ∃ e, PrsB D xs ys H e ∧ (b = true ↔ ∀ j, j < xs.length → e j = true))
def DTp (K : PySem.W.Frag) (D : EqB) : EqB := fun x y H b => ∃ a c xs ys e, x = .ref a ∧ y = .ref c ∧ SqT K H a xs ∧ SqT K H c ys ∧ xs.length = ys.length ∧ PrsB D xs ys H e ∧ (b = true ↔ ∀ j, j < xs.length → e j = true)
theorem PrsB.mon (hD : MonB D) {xs ys : List V} {H H' : Hp} {e : Nat → Bool} (x : Ext H H') (p : PrsB D xs ys H e) : PrsB D xs ys H' e := fun i a b h1 h2 => hD a b H H' _ x (p i a b h1 h2)
theorem monB_ls (hD : MonB D) : MonB (DLs D) := fun x y H H' b e d => by
  obtain ⟨a, c, xs, ys, hx, hy, h1, h2, h3, h4⟩ := d
  exact ⟨a, c, xs, ys, hx, hy, e _ _ h1, e _ _ h2, h3, fun q => let ⟨f, p, z⟩ := h4 q; ⟨f, p.mon hD e, z⟩⟩
theorem monB_tp {K : PySem.W.Frag} (hD : MonB D) : MonB (DTp K D) := fun x y H H' b e d => by
  obtain ⟨a, c, xs, ys, f, hx, hy, h1, h2, h3, p, z⟩ := d
  exact ⟨a, c, xs, ys, f, hx, hy, h1.ext e, h2.ext e, h3, p.mon hD e, z⟩
theorem rfl_ls (hR : RflB D) : RflB (DLs D) := fun x H b d => by
  obtain ⟨a, c, xs, ys, hx, hy, h1, h2, h3, h4⟩ := d
  rw [hx] at hy
  cases hy
  rw [h1] at h2
  cases h2
  obtain ⟨e, p, z⟩ := h4 rfl
  refine z.mpr fun j hj => hR _ H _ (p j xs[j] xs[j] ?_ ?_) <;> exact List.getElem?_eq_getElem hj
theorem sqT_uni {K : PySem.W.Frag} {pins : List (Addr × Obj)} {σ : L2.St} {H : Hp} {s : Shared} (I : Inv X pins σ H s) (hK : K = X.K) {a : Addr} {xs : List V} (h : SqT K H a xs) : ∃ its, Vals xs its ∧ s.heap.IsTuple a its.toArray := by
  subst hK
  obtain ⟨its, r, e, z⟩ := I.tuple h
  exact ⟨its, r, e⟩
theorem eqD_of (h : RcD X n .Eq D) (hR : RflB D) (hr : ∀ x y H b, D x y H b → ∃ a c, x = .ref a ∧ y = .ref c) : EqD X n D := by
  intro A pins s σ H x y u v b sb I rx ry d
  obtain ⟨a, c, rfl, rfl⟩ := hr _ _ _ _ d
  cases rx
  cases ry
  by_cases hab : a = c
  · subst hab
    rw [hR _ _ _ d]
    exact SeqAt.EqAt.same (A := A) (s := s) (.ref a) X.prog X.w X.xe _ ⟨rfl, H, I, Ext.rfl'⟩
  · refine GQ.eqBool_refG hab (wpAny_mono (h A pins s σ H (.ref a) (.ref c) _ _ _ sb I rfl rfl d) (fun r s' q => ?_) fun _ _ x => x)
    obtain ⟨hr', q⟩ := q
    exact ⟨b, hr', rfl, q⟩
theorem rcD_ls (hD : MonB D) (h : EqD X n D) : RcD X (n + 1) .Eq (DLs D) := by
  intro A pins s σ H x y u v b sb I rx ry d
  obtain ⟨a, c, xs, ys, rfl, rfl, ha, hb, h3, h4⟩ := d
  cases rx
  cases ry
  by_cases hl : xs.length = ys.length
  · obtain ⟨e, p, z⟩ := h4 hl
    refine GwE.rc_listE (N := xs.length) sb.room.units0 e (fun _ s' => LoopI X pins σ H s') (fun i s' q => ?_) (fun s' a q => ⟨by rw [z.mpr a], q⟩) (fun i s' hi a q => ⟨?_, q⟩) ⟨H, I, Ext.rfl'⟩
    · obtain ⟨H1, I1, e1⟩ := id q
      obtain ⟨zz, its, k, r, ee⟩ := I1.hok a _ (e1 _ _ ha)
      obtain ⟨z2, its2, k2, r2, e2⟩ := I1.hok c _ (e1 _ _ hb)
      refine ⟨its.toArray, its2.toArray, k, k2, ee, e2, by rw [List.size_toArray, ← r.length], by rw [List.size_toArray, ← r2.length, ← hl], fun h1 h2 => ?_⟩
      exact turnB hD h sb p r r2 i h1 h2 s' q
    · congr 1
      cases hb' : b with
      | false => rfl
      | true => rw [z.mp hb' i hi] at a; cases a
  · obtain ⟨zz, its, k, r, ee⟩ := I.hok a _ ha
    obtain ⟨z2, its2, k2, r2, e2⟩ := I.hok c _ hb
    refine GwE.rc_listL sb.room.units0 (items := its.toArray) (items2 := its2.toArray) ?_ ee e2 ⟨by rw [h3 hl], H, I, Ext.rfl'⟩
    rw [List.size_toArray, List.size_toArray, ← r.length, ← r2.length]
    simpa using hl
theorem rcD_lsN (hD : MonB D) (h : EqD X n D) : RcD X (n + 1) .NotEq (fun x y H b => (∃ a c xs ys, x = .ref a ∧ y = .ref c ∧ H a = some (.lst xs) ∧ H c = some (.lst ys) ∧ xs.length = ys.length ∧ ∃ e, PrsB D xs ys H e ∧ (b = false ↔ ∀ j, j < xs.length → e j = true))) := by
  intro A pins s σ H x y u v b sb I rx ry d
  obtain ⟨a, c, xs, ys, rfl, rfl, ha, hb, hl, e, p, z⟩ := d
  cases rx
  cases ry
  refine GwE.rc_listNE (N := xs.length) sb.room.units0 e (fun _ s' => LoopI X pins σ H s') (fun i s' q => ?_) (fun s' a q => ⟨by rw [z.mpr a], q⟩) (fun i s' hi a q => ⟨?_, q⟩) ⟨H, I, Ext.rfl'⟩
  · obtain ⟨H1, I1, e1⟩ := id q
    obtain ⟨zz, its, k, r, ee⟩ := I1.hok a _ (e1 _ _ ha)
    obtain ⟨z2, its2, k2, r2, e2⟩ := I1.hok c _ (e1 _ _ hb)
    refine ⟨its.toArray, its2.toArray, k, k2, ee, e2, by rw [List.size_toArray, ← r.length], by rw [List.size_toArray, ← r2.length, ← hl], fun h1 h2 => ?_⟩
    exact turnB hD h sb p r r2 i h1 h2 s' q
  · congr 1
    cases hb' : b with
    | true => rfl
    | false => rw [z.mp hb' i hi] at a; cases a
theorem rcD_tp (hD : MonB D) (h : EqD X n D) : RcD X (n + 1) .Eq (DTp X.K D) := by
  intro A pins s σ H x y u v b sb I rx ry d
  obtain ⟨a, c, xs, ys, e, rfl, rfl, ha, hb, hl, p, z⟩ := d
  cases rx
  cases ry
  obtain ⟨its, r, ee, zz⟩ := I.tuple ha
  obtain ⟨its2, r2, e2, z2⟩ := I.tuple hb
  have hsz : its.toArray.size = its2.toArray.size := by rw [List.size_toArray, List.size_toArray, ← r.length, ← r2.length]; exact hl
  have hxs : xs.length = its.toArray.size := by rw [List.size_toArray, ← r.length]
  refine GwE.rc_tupE hsz sb.room.units0 e (fun _ s' => LoopI X pins σ H s') ee e2 (fun i h1 h2 s' q => turnB hD h sb p r r2 i h1 h2 s' q) (fun s' a q => ⟨by rw [z.mpr (by rw [hxs]; exact a)], q⟩) (fun i s' hi a q => ⟨?_, q⟩) ⟨H, I, Ext.rfl'⟩
  congr 1
  cases hb' : b with
  | false => rfl
  | true => rw [z.mp hb' i (by rw [hxs]; exact hi)] at a; cases a
/-- two Ratios -/
def DQ (C : Addr) : EqB := fun x y H b => ∃ a c dx dy q r, x = .ref a ∧ y = .ref c ∧ H a = some (.ins C dx (qFs q)) ∧ H c = some (.ins C dy (qFs r)) ∧ b = decide (q = r)
theorem monB_q {C : Addr} : MonB (DQ C) := fun x y H H' b e d => by
  obtain ⟨a, c, dx, dy, q, r, hx, hy, h1, h2, z⟩ := d
  exact ⟨a, c, dx, dy, q, r, hx, hy, e _ _ h1, e _ _ h2, z⟩
theorem qFs_inj {q r : Rat} (h : qFs q = qFs r) : q = r := by
  unfold qFs at h
  injection h with h1 h2
  injection h2 with h3 h4
  have e1 := congrArg Prod.snd h1
  have e2 := congrArg Prod.snd h3
  have e1 : V.int q.num = V.int r.num := e1
  have e2 : V.int (q.den : Int) = V.int (r.den : Int) := e2
  injection e1 with e1
  injection e2 with e2
  exact Rat.ext e1 (by omega)
theorem rfl_q {C : Addr} : RflB (DQ C) := fun x H b d => by
  obtain ⟨a, c, dx, dy, q, r, hx, hy, h1, h2, z⟩ := d
  rw [hx] at hy
  cases hy
  rw [h1] at h2
  injection h2 with h2
  injection h2 with _ _ h3
  rw [z, decide_eq_true (qFs_inj h3)]
theorem rcD_q {C : Addr} (T : EqK X.prog X.w X.K X.mg X.base C n) : RcD X n .Eq (DQ C) := by
  obtain ⟨f, fd, hs, hf, _, _, F, hb⟩ := T
  intro A pins s σ H x y u v b sb I rx ry d
  obtain ⟨a, c, dx, dy, q, r, rfl, rfl, ha, hb', hz⟩ := d
  cases rx
  cases ry
  obtain ⟨mA, J, _⟩ := ins_get I.hok ha
  obtain ⟨mB, J', _⟩ := ins_get I.hok hb'
  obtain ⟨od, J, _⟩ := J.look
  obtain ⟨od', J', _⟩ := J'.look
  obtain ⟨m, hF⟩ := I.fr
  refine PySem.W.cmp_K (op := .Eq) (tb := .ref C) sb.room.units0 hF I.ok.mod.kin J J'.type (by simp [PySem.W.notFirst]) hs hf ?_
  have hsp : spEqQ C [.ref a, .ref c] H (fun v H' => v = .bl b ∧ Ext H H') E0 := by
    refine ⟨H, (q, r), ⟨Ex.refl H, fun _ h => nomatch h⟩, .cons (IsQ.up ⟨a, dx, rfl, ha⟩) (.cons (IsQ.up ⟨c, dy, rfl, hb'⟩) .nil), trivial, fun v F' H' g u => ?_⟩
    have e : v = .bl (decide (q = r)) := u.here
    exact ⟨by rw [e, hz], fun x o h => g.k x o h (fun z => nomatch z)⟩
  have e0 : Env0 X.prog X.w X.K X.mg X.base A X.stack s H := by
    have e := I.env0
    exact ⟨by rw [sb.fr]; exact e.frames, e.mod, e.bs, e.bsz, e.funs, e.frf, e.hok, e.bare⟩
  have hl := F.len _ _ _ _ hsp
  have r2 : Vals [V.ref a, V.ref c] [Value.ref a, Value.ref c] := .cons rfl (.cons rfl .nil)
  refine wpAny_call (codeAny_mono (F.run A X.stack s H ⟨[.ref a, .ref c], []⟩ [.ref a, .ref c] [.ref a, .ref c] _ E0 sb.room e0 (by
    have := hb s [.ref a, .ref c] I.kIn (by simpa using hl)
    simpa using this) r2 hsp) fun r s' hq => ?_)
  cases r with
  | error e => exact (pass00 (X := X) (E' := E0)) pins σ H s e s' I hq
  | ok fl =>
    cases fl with
    | ret w =>
      obtain ⟨z, H', I', rz, ez, ex⟩ := I.after hq
      subst ez
      cases rz
      exact ⟨rfl, H', I', ex⟩
    | next => exact False.elim hq
    | brk => exact False.elim hq
    | cont => exact False.elim hq
def rEqD (D : EqB) : R2 := fun x y H Q => ∃ b, D x y H b ∧ ∀ H', Ext H H' → Q (.bl b) H'
theorem op_eqD {op : CmpOp} (h : RcD X n op D) (hr : Room n X.A) (ho : compareOp op = richCompare op := by rfl) : OpR X (compareOp op) (rEqD D) := by
  intro pins s σ H x y v u Q I rx ry hq
  obtain ⟨b, d, q⟩ := hq
  rw [ho]
  refine wpAny_mono (h X.A pins s σ H x y v u b ⟨hr, rfl⟩ I rx ry d) (fun r s' z => ?_) fun _ _ x => x
  obtain ⟨hr', H', I', e⟩ := z
  subst hr'
  exact ⟨.bl b, H', I', rfl, q H' e⟩
/-! ### from what is known of lists -/
theorem prsB_of {α : Type} [DecidableEq α] [Inhabited α] {R : α → V → Hp → Prop} {F H : Hp} (hD : ∀ x y v w, Up (R x) v F → Up (R y) w F → D v w H (decide (x = y))) {xs ys : List α} {vs ws : List V} (h : LsOf R xs vs F) (k : LsOf R ys ws F) : PrsB D vs ws H (fun i => decide (xs[i]! = ys[i]!)) := fun i v w hv hw => by
  have li : i < xs.length := by rw [h.len]; exact (List.getElem?_eq_some_iff.mp hv).1
  have lj : i < ys.length := by rw [k.len]; exact (List.getElem?_eq_some_iff.mp hw).1
  obtain ⟨v', e1, u1⟩ := h.get (List.getElem?_eq_getElem li)
  obtain ⟨w', e2, u2⟩ := k.get (List.getElem?_eq_getElem lj)
  rw [hv] at e1
  rw [hw] at e2
  cases e1
  cases e2
  show D v w H (decide (xs[i]! = ys[i]!))
  rw [getElem!_pos xs i li, getElem!_pos ys i lj]
  exact hD _ _ v w u1 u2
theorem eq_all {α : Type} [DecidableEq α] [Inhabited α] {xs ys : List α} (hl : xs.length = ys.length) : decide (xs = ys) = true ↔ ∀ j, j < xs.length → decide (xs[j]! = ys[j]!) = true := by
  rw [decide_eq_true_eq]
  constructor
  · intro e j _
    rw [e]; simp
  · intro h
    apply List.ext_getElem hl
    intro i h1 h2
    have := h i h1
    rw [decide_eq_true_eq, getElem!_pos xs i h1, getElem!_pos ys i h2] at this
    exact this
theorem dls_of {α : Type} [DecidableEq α] [Inhabited α] {R : α → V → Hp → Prop} {F H : Hp} (ex : Ex F H) (hD : ∀ x y v w, Up (R x) v F → Up (R y) w F → D v w H (decide (x = y))) {xs ys : List α} {v w : V} (h : IsL R xs v F) (k : IsL R ys w F) : DLs D v w H (decide (xs = ys)) := by
  obtain ⟨a, vs, rfl, ha, ua⟩ := h
  obtain ⟨c, ws, rfl, hc, uc⟩ := k
  have l1 := ua.here.len
  have l2 := uc.here.len
  refine ⟨a, c, vs, ws, rfl, rfl, ex _ _ ha, ex _ _ hc, fun hne => decide_eq_false fun e => hne ?_, fun e => ⟨_, prsB_of hD ua.here uc.here, ?_⟩⟩
  · rw [← l1, ← l2, e]
  · rw [← l1]
    exact eq_all (by omega)
theorem dq_of {C : Addr} {F H : Hp} (ex : Ex F H) {q r : Rat} {v w : V} (h : Up (IsQ C q) v F) (k : Up (IsQ C r) w F) : DQ C v w H (decide (q = r)) := by
  obtain ⟨a, dx, rfl, ha⟩ := h.here
  obtain ⟨c, dy, rfl, hc⟩ := k.here
  exact ⟨a, c, dx, dy, q, r, rfl, rfl, ex _ _ ha, ex _ _ hc, rfl⟩
theorem refs_ls {x y : V} {H : Hp} {b : Bool} (d : DLs D x y H b) : ∃ a c, x = .ref a ∧ y = .ref c := let ⟨a, c, _, _, hx, hy, _⟩ := d; ⟨a, c, hx, hy⟩
theorem refs_q {C : Addr} {x y : V} {H : Hp} {b : Bool} (d : DQ C x y H b) : ∃ a c, x = .ref a ∧ y = .ref c := let ⟨a, c, _, _, _, _, hx, hy, _⟩ := d; ⟨a, c, hx, hy⟩
theorem refs_tp {K : PySem.W.Frag} {x y : V} {H : Hp} {b : Bool} (d : DTp K D x y H b) : ∃ a c, x = .ref a ∧ y = .ref c := let ⟨a, c, _, _, _, hx, hy, _⟩ := d; ⟨a, c, hx, hy⟩
theorem gr_ext {pp : Option Addr} {F H H' : Hp} (ok : Ok pp F H) (e : Ext H H') : Gr pp F H F H' := ⟨Ex.refl F, fun x o h => e _ _ (ok.s _ _ h), fun x o h _ => e _ _ h, fun x o h => .inl h, fun x hx => by
  obtain ⟨q1, i, j, q2, q3⟩ := ok.p x hx
  exact ⟨q1, i, j, e _ _ q2, q3⟩⟩
end
end Gw
set_option maxHeartbeats 4000000
/-! == and != of tables and of lists of guesses. -/
namespace Gw
open PySem PySem.Spec PyProof.Rows L2
section
variable {X : Cx} {E : En} {G : List Sl} {a b : Expr} {pos : Pos} {C : Addr} {k : Nat}
theorem eqD_q (T : EqK X.prog X.w X.K X.mg X.base C k) : EqD X k (DQ C) := eqD_of (rcD_q T) rfl_q fun _ _ _ _ d => refs_q d
theorem eqD_ls {D : EqB} (hD : MonB D) (hR : RflB D) (h : EqD X k D) : EqD X (k + 1) (DLs D) := eqD_of (rcD_ls hD h) (rfl_ls hR) fun _ _ _ _ d => refs_ls d
theorem lsq_dls {C : Addr} {F H : Hp} (ex : Ex F H) {xs ys : List Rat} {v w : V} (h : Up (IsL (IsQ C) xs) v F) (k : Up (IsL (IsQ C) ys) w F) : DLs (DQ C) v w H (decide (xs = ys)) := dls_of ex (fun x y v w h1 h2 => dq_of ex h1 h2) h.here k.here
theorem rop_neMM {pp : Option Addr} {M N : List (List Rat)} (hl : M.length = N.length) : ROp pp (rEqD (fun x y H b => (∃ a c xs ys, x = .ref a ∧ y = .ref c ∧ H a = some (.lst xs) ∧ H c = some (.lst ys) ∧ xs.length = ys.length ∧ ∃ e, PrsB (DLs (DQ C)) xs ys H e ∧ (b = false ↔ ∀ j, j < xs.length → e j = true)))) (IsL (IsL (IsQ C)) M) (IsL (IsL (IsQ C)) N) (IsB (!decide (M = N))) := fun x y F H Q ok u1 u2 kq => by
  obtain ⟨p, vs, rfl, hp, up⟩ := u1.here
  obtain ⟨q, ws, rfl, hq, uq⟩ := u2.here
  have l1 := up.here.len
  have l2 := uq.here.len
  refine ⟨!decide (M = N), ⟨p, q, vs, ws, rfl, rfl, ok.s _ _ hp, ok.s _ _ hq, by omega, _, prsB_of (fun x y v w h1 h2 => lsq_dls ok.s h1 h2) up.here uq.here, ?_⟩, fun H' ext => kq _ F H' (gr_ext ok ext) (fun _ _ => rfl)⟩
  rw [← l1, ← eq_all hl]
  simp
theorem jt_neMM {M N : List (List Rat)} (T : EqK X.prog X.w X.K X.mg X.base C k) (hr : Room (k + 2) X.A) (ha : PE X a (tE E G (IsL (IsL (IsQ C)) M))) (hb : PE X b (tE E G (IsL (IsL (IsQ C)) N))) (hl : M.length = N.length) : PT X (.Compare a [.NotEq] [b] pos) (tT E G (!decide (M = N))) :=
  jt_cmp (pt_cmpR (op_eqD (rcD_lsN (monB_ls monB_q) (eqD_ls monB_q rfl_q (eqD_q T))) hr) ha hb (nomark _)) (rop_neMM hl)
theorem dtp_of {K : PySem.W.Frag} {F H : Hp} (ex : Ex F H) {p q : Rat × Rat} {v w : V} (h : Up (IsPq C p) v F) (k : Up (IsPq C q) w F) : DTp K (DQ C) v w H (decide (p = q)) := by
  obtain ⟨a, vs, rfl, ha, ua⟩ := h.here
  obtain ⟨c, ws, rfl, hc, uc⟩ := k.here
  have A1 := ua.here
  have A2 := uc.here
  cases A1 with
  | cons r1 t1 => cases t1 with
    | cons r2 t2 => cases t2 with
      | nil => cases A2 with
        | cons s1 u1 => cases u1 with
          | cons s2 u2 => cases u2 with
            | nil =>
              refine ⟨a, c, _, _, fun i => if i = 0 then decide (p.1 = q.1) else decide (p.2 = q.2), rfl, rfl, SqT.of (ex _ _ ha), SqT.of (ex _ _ hc), rfl, fun i x y h1 h2 => ?_, ?_⟩
              · match i, h1, h2 with
                | 0, h1, h2 =>
                  simp at h1 h2
                  subst h1; subst h2
                  exact dq_of ex r1 s1
                | 1, h1, h2 =>
                  simp at h1 h2
                  subst h1; subst h2
                  exact dq_of ex r2 s2
                | i + 2, h1, _ => simp at h1
              · constructor
                · intro e j hj
                  have e := of_decide_eq_true e
                  subst e
                  show (if j = 0 then decide (p.1 = p.1) else decide (p.2 = p.2)) = true
                  split <;> simp
                · intro e
                  have e0 := e 0 (by simp)
                  have e1 := e 1 (by simp)
                  simp at e0 e1
                  exact decide_eq_true (Prod.ext e0 e1)
theorem rfl_tp {K : PySem.W.Frag} : RflB (fun x y H b => DTp K (DQ C) x y H b ∧ (x = y → b = true)) := fun x H b d => d.2 rfl
end
section
variable {X : Cx} {E : En} {G : List Sl} {a b : Expr} {pos : Pos} {C : Addr} {k : Nat}
abbrev DTq (K : PySem.W.Frag) (C : Addr) : EqB := fun x y H b => DTp K (DQ C) x y H b ∧ (x = y → b = true)
theorem monB_tq {K : PySem.W.Frag} : MonB (DTq K C) := fun x y H H' b e d => ⟨monB_tp monB_q _ _ _ _ _ e d.1, d.2⟩
theorem eqD_tq (T : EqK X.prog X.w X.K X.mg X.base C k) : EqD X (k + 1) (DTq X.K C) := by
  have h := rcD_tp (X := X) monB_q (eqD_q T)
  refine eqD_of (fun A pins s σ H x y u v b sb I rx ry d => h A pins s σ H x y u v b sb I rx ry d.1) rfl_tp fun _ _ _ _ d => refs_tp d.1
theorem dtq_of {K : PySem.W.Frag} {F H : Hp} (ex : Ex F H) {p q : Rat × Rat} {v w : V} (h : Up (IsPq C p) v F) (k : Up (IsPq C q) w F) : DTq K C v w H (decide (p = q)) := by
  refine ⟨dtp_of ex h k, fun e => ?_⟩
  subst e
  obtain ⟨a, vs, rfl, ha, ua⟩ := h.here
  obtain ⟨c, ws, e2, hc, uc⟩ := k.here
  cases e2
  rw [ha] at hc
  injection hc with hc
  injection hc with hc
  subst hc
  have A1 := ua.here
  have A2 := uc.here
  cases A1 with
  | cons r1 t1 => cases t1 with
    | cons r2 t2 => cases t2 with
      | nil => cases A2 with
        | cons s1 u1 => cases u1 with
          | cons s2 u2 =>
            have key : ∀ {x : V} {m n : Rat}, Up (IsQ C m) x F → Up (IsQ C n) x F → m = n := fun h1 h2 => by
              obtain ⟨a, dx, rfl, ha⟩ := h1.here
              obtain ⟨c, dy, e, hc⟩ := h2.here
              cases e
              rw [ha] at hc
              injection hc with hc
              injection hc with _ _ hc
              exact qFs_inj hc
            exact decide_eq_true (Prod.ext (key r1 s1) (key r2 s2))
theorem rop_eqGG {pp : Option Addr} {K : PySem.W.Frag} {M N : List (List (Rat × Rat))} : ROp pp (rEqD (DLs (DLs (DTq K C)))) (IsL (IsGQ C) M) (IsL (IsGQ C) N) (IsB (decide (M = N))) := fun x y F H Q ok u1 u2 kq =>
  ⟨_, dls_of (R := IsGQ C) (D := DLs (DTq K C)) ok.s (fun x y v w h1 h2 => dls_of (R := IsPq C) (D := DTq K C) ok.s (fun x y v w h1 h2 => dtq_of ok.s h1 h2) h1.here h2.here) u1.here u2.here, fun H' ext => kq _ F H' (gr_ext ok ext) (fun _ _ => rfl)⟩
theorem je_eqGG {M N : List (List (Rat × Rat))} (T : EqK X.prog X.w X.K X.mg X.base C k) (hr : Room (k + 3) X.A) (ha : PE X a (tE E G (IsL (IsGQ C) M))) (hb : PE X b (tE E G (IsL (IsGQ C) N))) : PE X (.Compare a [.Eq] [b] pos) (tE E G (IsB (decide (M = N)))) :=
  je_op (pe_cmpR (op_eqD (rcD_ls (monB_ls monB_tq) (eqD_ls monB_tq rfl_tp (eqD_tq T))) hr) ha hb (nomark _)) rop_eqGG
theorem jt_eqGG {M N : List (List (Rat × Rat))} (T : EqK X.prog X.w X.K X.mg X.base C k) (hr : Room (k + 3) X.A) (ha : PE X a (tE E G (IsL (IsGQ C) M))) (hb : PE X b (tE E G (IsL (IsGQ C) N))) : PT X (.Compare a [.Eq] [b] pos) (tT E G (decide (M = N))) :=
  jt_cmp (pt_cmpR (op_eqD (rcD_ls (monB_ls monB_tq) (eqD_ls monB_tq rfl_tp (eqD_tq T))) hr) ha hb (nomark _)) rop_eqGG
theorem rop_eqMM {pp : Option Addr} {M N : List (List Rat)} : ROp pp (rEqD (DLs (DLs (DQ C)))) (IsL (IsL (IsQ C)) M) (IsL (IsL (IsQ C)) N) (IsB (decide (M = N))) := fun x y F H Q ok u1 u2 kq =>
  ⟨_, dls_of ok.s (fun x y v w h1 h2 => lsq_dls ok.s h1 h2) u1.here u2.here, fun H' ext => kq _ F H' (gr_ext ok ext) (fun _ _ => rfl)⟩
theorem jt_eqMM {M N : List (List Rat)} (T : EqK X.prog X.w X.K X.mg X.base C k) (hr : Room (k + 2) X.A) (ha : PE X a (tE E G (IsL (IsL (IsQ C)) M))) (hb : PE X b (tE E G (IsL (IsL (IsQ C)) N))) : PT X (.Compare a [.Eq] [b] pos) (tT E G (decide (M = N))) :=
  jt_cmp (pt_cmpR (op_eqD (rcD_ls (monB_ls monB_q) (eqD_ls monB_q rfl_q (eqD_q T))) hr) ha hb (nomark _)) rop_eqMM
theorem rop_eqQQ {pp : Option Addr} {M N : List Rat} : ROp pp (rEqD (DLs (DQ C))) (IsL (IsQ C) M) (IsL (IsQ C) N) (IsB (decide (M = N))) := fun x y F H Q ok u1 u2 kq =>
  ⟨_, dls_of ok.s (fun x y v w h1 h2 => dq_of ok.s h1 h2) u1.here u2.here, fun H' ext => kq _ F H' (gr_ext ok ext) (fun _ _ => rfl)⟩
theorem je_eqQQ {M N : List Rat} (T : EqK X.prog X.w X.K X.mg X.base C k) (hr : Room (k + 1) X.A) (ha : PE X a (tE E G (IsL (IsQ C) M))) (hb : PE X b (tE E G (IsL (IsQ C) N))) : PE X (.Compare a [.Eq] [b] pos) (tE E G (IsB (decide (M = N)))) :=
  je_op (pe_cmpR (op_eqD (rcD_ls monB_q (eqD_q T)) hr) ha hb (nomark _)) rop_eqQQ
end
end Gw
set_option maxHeartbeats 4000000
namespace Gw
open PySem PySem.Spec PyProof.Rows L2
theorem q_sgn_0 (q : Rat) : decide (q.num.sign = 0) = decide (q = 0) := by
  rw [decide_eq_decide, Int.sign_eq_zero_iff_zero]
  exact Rat.num_eq_zero
theorem q_sgn_neg (q : Rat) : decide (q.num.sign < 0) = decide (q < 0) := by
  rw [decide_eq_decide, Int.sign_neg_iff, Rat.lt_iff]
  simp
/-! ### forms, as the text computes -/
def dotL (xs ys : List Rat) : List Rat := ((xs.zip ys).filter fun q => !decide (q.1 = 0)).map fun q => q.1 * q.2
def dotR (xs ys : List Rat) : Rat := sumR (dotL xs ys)
def ledR (M : List (List Rat)) (row : List Rat) : List Rat := M.map fun one => dotR one row
def worthR (M : List (List Rat)) (row : List Rat) : Rat := dotR row (ledR M row)
def turnR (M : List (List Rat)) : List (List Rat) := (List.range (M[0]!).length).map fun p => M.map fun r => r[p]!
structure DotP (xs ys : List Rat) : Prop where
  f : ∀ q ∈ xs.zip ys, Fits q.1 q.2
  s : FitsL 0 (dotL xs ys)
  l : xs.length ≤ 1000
structure FormP (M : List (List Rat)) : Prop where
  lo : 1 ≤ M.length
  hi : M.length ≤ 12
  sq : ∀ r ∈ M, r.length = M.length
  tu : M = turnR M
section
variable {P : Program} {w : World} {K : PySem.W.Frag} {mg : Str → Option Value} {base : Heap} {C : Addr}
abbrev sp_are_table (C : Addr) : Sp := Pr (ι := List (List Rat) × Nat × Nat) (fun w => [IsQM C w.1, IsU w.2.1, IsU w.2.2]) (fun w => w.2.1 ≤ w.1.length ∧ w.1.length ≤ w.2.2 ∧ w.1.length ≤ 1000 ∧ ∀ r ∈ w.1, r.length = w.1.length) (fun _ => IsB true)
abbrev Kn_are_table (P : Program) (w : World) (K : PySem.W.Frag) (mg : Str → Option Value) (base : Heap) (C : Addr) : Prop := Kn P w K mg base "are_table" 6 ["value", "least", "most"] (sp_are_table C)
theorem ok_are_table (Z : Glo K mg C) (k_is_list : Kn_is_list P w K mg base C) (k_is_number : Kn_is_number P w K mg base C) {f : Addr} {fd : FuncData} (Fd : FnP K "are_table" st_are_table f fd) : FnOk P w K mg base CX0 6 f fd ["value", "least", "most"] (sp_are_table C) := by
  refine fn_pr Fd sc_are_table (fun u => by first | rfl | (cases u <;> rfl)) (fun _ => False) (fun _ _ h => h.elim) (fun X u E hX hp hE => ?_)
  obtain ⟨cdv, A, outer, s, H, E', rfl, hr⟩ := hX
  refine PSs.nox ?_
  have nd := (sc_are_table).nd
  replace hr : Room 5 (cxOf CX0 P w K mg base N_are_table "are_table" (defScope st_are_table) f cdv A outer s H E').nox.A := hr
  obtain ⟨M, lo, hi⟩ := u
  obtain ⟨h1, h2, h3, h4⟩ : lo ≤ M.length ∧ M.length ≤ hi ∧ M.length ≤ 1000 ∧ ∀ r ∈ M, r.length = M.length := hp
  refine js_seq (G1 := G0 [IsQM C M, IsU lo, IsU hi] 5) (js_if (b1 := false) (jt_eq (PW.pt (jw_or (b1 := false) (b2 := false) (jt_not (b1 := true) (jt_val (pt_val (jc k_is_list (hr.mono (by decide)) () (ja_cons (je_conv (jv 0 (R := IsQM C M)) lst_lt) ja_nil) trivial)))) fun _ => jw_or1 (jt_eq (jt_not (jt_chain (pt_chain op_le op_le (jv 1 (R := IsU lo)) (jbB call_len Z.len boot_len (ja_cons (jv 0 (R := IsQM C M)) ja_nil) rc_len) (jv 2 (R := IsU hi))) rop_le rop_le)) ?_))) rfl) (fun h => nomatch h) (fun _ => js_nil rfl)) ?_
  · simp only [Bool.not_eq_false', Bool.and_eq_true, decide_eq_true_eq]
    omega
  refine js_cons (N1 := fun G => ∃ s, G = [.fz (IsQM C M), .fz (IsU lo), .fz (IsU hi), s, .un]) (js_for PassesOwn.never rfl (ji_list (Rx := IsL (IsQ C)) (xs := M) (pi_list (jv 0))) (fun x => jg1 3 nd) (fun i G => ∃ s, G = [.fz (IsQM C M), .fz (IsU lo), .fz (IsU hi), s, .un]) ⟨_, rfl⟩ ?_ (fun G1 h => h)) ?_
  · rintro i r G1 hi' ⟨s, rfl⟩
    have hm := List.mem_of_getElem? hi'
    have hrl := h4 r hm
    refine js_one (js_if (b1 := false) (jt_eq (PW.pt (jw_or (b1 := false) (b2 := false) (jt_not (b1 := true) (jt_val (pt_val (jc k_is_list (hr.mono (by decide)) () (ja_cons (je_conv (jv 3 (R := IsL (IsQ C) r)) lst_lt) ja_nil) trivial)))) fun _ => jw_or (b1 := false) (b2 := false) (jt_eq (jt_cmp (pt_cmpR op_ne (jbB call_len Z.len boot_len (ja_cons (jv 3 (R := IsL (IsQ C) r)) ja_nil) rc_len) (jbB call_len Z.len boot_len (ja_cons (jv 0 (R := IsQM C M)) ja_nil) rc_len) (nomark _)) rop_neI) ?_) fun _ => jw_or1 (jt_not (b1 := true) (jt_val (pt_val (je_eq (jbB (cr_all rfl) Z.all boot_all (ja_cons (je_m (jlc (Ry := IsB) (fun _ => true) [("number", 4)] nd (ji_list (Rx := IsQ C) (xs := r) (pi_list (jv 3))) (fun s H C' cl fp x => jg1 4 nd) (fun s H C' cl fp x hx => jc k_is_number (hr.mono (by decide)) x (ja_cons (je_conv (jv 4 (R := IsQ C x)) isQ_nm) ja_nil) trivial) (line_of (m := 1000) (by omega)))) ja_nil) rc_all) (by rw [all_true]))))))) rfl) (fun h => nomatch h) (fun _ => js_nil ⟨_, rfl⟩))
    rw [hrl]; simp
  · rintro _ ⟨s, rfl⟩
    exact js_one (js_ret jBl)
abbrev sp_told_table_2 (C : Addr) : Sp := Pr (ι := List (List Rat)) (fun w => [IsQM C w]) (fun w => w.length ≤ 1000 ∧ ∀ r ∈ w, r.length ≤ 1000) (fun w => IsQM C w)
abbrev Kn_told_table_2 (P : Program) (w : World) (K : PySem.W.Frag) (mg : Str → Option Value) (base : Heap) (C : Addr) : Prop := Kn P w K mg base "told_table_tables" 6 ["value"] (sp_told_table_2 C)
theorem ok_told_table_2 (Z : Glo K mg C) (k_ratio_of : Kn_ratio_of P w K mg base C) {f : Addr} {fd : FuncData} (Fd : FnP K "told_table" st_told_table_2 f fd) : FnOk P w K mg base CX0 6 f fd ["value"] (sp_told_table_2 C) := by
  refine fn_pr Fd sc_told_table_2 (fun u => by first | rfl | (cases u <;> rfl)) (fun _ => False) (fun _ _ h => h.elim) (fun X u E hX hp hE => ?_)
  obtain ⟨cdv, A, outer, s, H, E', rfl, hr⟩ := hX
  refine PSs.nox ?_
  have nd := (sc_told_table_2).nd
  replace hr : Room 5 (cxOf CX0 P w K mg base N_told_table_2 "told_table" (defScope st_told_table_2) f cdv A outer s H E').nox.A := hr
  rename List (List Rat) => xs
  refine js_one (js_ret (je_eq (je_m (jlc (Ry := IsL (IsQ C)) (fun r => r) [("row", 2)] nd (ji_list (Rx := IsL (IsQ C)) (xs := xs) (pi_list (jv 0))) (fun s H C' cl fp x => jg1 2 nd) (fun s H C' cl fp r hr' => ?_) (line_of hp.1))) (by rw [List.map_id'])))
  exact je_eq (je_m (jlc (Ry := IsQ C) (fun r => r) [("number", 1)] nd (ji_list (Rx := IsQ C) (xs := r) (pi_list (jv 2))) (fun s H C' cl fp x => jg1 1 nd) (fun s H C' cl fp x hx => jc k_ratio_of hr x (ja_cons (je_conv (jv 1 (R := IsQ C x)) isQ_nm) ja_nil) trivial) (line_of (hp.2 r hr')))) (by rw [List.map_id'])
abbrev sp_turned_of (C : Addr) : Sp := Pr (ι := List (List Rat)) (fun w => [IsQM C w]) (fun w => 1 ≤ w.length ∧ w.length ≤ 1000 ∧ ∀ r ∈ w, r.length = w.length) (fun w => IsQM C (turnR w))
abbrev Kn_turned_of (P : Program) (w : World) (K : PySem.W.Frag) (mg : Str → Option Value) (base : Heap) (C : Addr) : Prop := Kn P w K mg base "turned_of" 1 ["rows"] (sp_turned_of C)
theorem ok_turned_of (Z : Glo K mg C)  {f : Addr} {fd : FuncData} (Fd : FnP K "turned_of" st_turned_of f fd) : FnOk P w K mg base CX0 1 f fd ["rows"] (sp_turned_of C) := by
  refine fn_pr Fd sc_turned_of (fun u => by first | rfl | (cases u <;> rfl)) (fun _ => False) (fun _ _ h => h.elim) (fun X u E hX hp hE => ?_)
  obtain ⟨cdv, A, outer, s, H, E', rfl, hr⟩ := hX
  refine PSs.nox ?_
  have nd := (sc_turned_of).nd
  replace hr : Room 0 (cxOf CX0 P w K mg base N_turned_of "turned_of" (defScope st_turned_of) f cdv A outer s H E').nox.A := hr
  rename List (List Rat) => M
  obtain ⟨h1, h2, h3⟩ : 1 ≤ M.length ∧ M.length ≤ 1000 ∧ ∀ r ∈ M, r.length = M.length := hp
  have h0 : (M[0]!).length = M.length := h3 _ (get_mem h1)
  exact js_one (js_ret (je_m (jlc (Ry := IsL (IsQ C)) (fun p => M.map fun r => r[p]!) [("place", 1)] nd (ji_rangeN (n := (M[0]!).length) (by omega) (pi_range1 rfl Z.range (ja_cons (jbB call_len Z.len boot_len (ja_cons (je_op (pe_ix ix_list (jv 0 (R := IsQM C M)) jI (fun _ _ => rfl)) (rop_ixB (j := 0) h1)) ja_nil) rc_len) ja_nil))) (fun s H C' cl fp x => jg1 1 nd) (fun s H C' cl fp p hp' => je_m (jlc (Ry := IsQ C) (fun r : List Rat => r[p]!) [("row", 2)] nd (ji_list (Rx := IsL (IsQ C)) (xs := M) (pi_list (jv 0))) (fun s H C' cl fp x => jg1 2 nd) (fun s H C' cl fp r hr' => je_op (pe_ix ix_list (jv 2 (R := IsL (IsQ C) r)) (jv 1 (R := IsU p)) (fun _ _ => rfl)) (rop_ixB (by rw [h3 r hr', ← h0]; exact List.mem_range.mp hp'))) (line_of (m := 1000) h2))) (line_of (m := 1000) (by rw [List.length_range]; omega)))))
abbrev sp_dot (C : Addr) : Sp := Pr (ι := List Rat × List Rat) (fun w => [IsL (IsQ C) w.1, IsL (IsQ C) w.2]) (fun w => DotP w.1 w.2) (fun w => IsQ C (dotR w.1 w.2))
abbrev Kn_dot (P : Program) (w : World) (K : PySem.W.Frag) (mg : Str → Option Value) (base : Heap) (C : Addr) : Prop := Kn P w K mg base "dot" 8 ["near", "far"] (sp_dot C)
theorem ok_dot (Z : Glo K mg C) (k_total_of : Kn_total_of P w K mg base C) (omul : Opr P w K mg base C .Mult 6 (fun w => Fits w.1 w.2) (· * ·)) (psign : PropK P w K mg base C "sign" 1 (sp_Rsign C)) {f : Addr} {fd : FuncData} (Fd : FnP K "dot" st_dot f fd) : FnOk P w K mg base CX0 8 f fd ["near", "far"] (sp_dot C) := by
  refine fn_pr Fd sc_dot (fun u => by first | rfl | (cases u <;> rfl)) (fun _ => False) (fun _ _ h => h.elim) (fun X u E hX hp hE => ?_)
  obtain ⟨cdv, A, outer, s, H, E', rfl, hr⟩ := hX
  refine PSs.nox ?_
  have nd := (sc_dot).nd
  replace hr : Room 7 (cxOf CX0 P w K mg base N_dot "dot" (defScope st_dot) f cdv A outer s H E').nox.A := hr
  obtain ⟨xs, ys⟩ := u
  have hp : DotP xs ys := hp
  have hl := hp.l
  refine js_one (js_ret (jc k_total_of (hr.mono (by decide)) (dotL xs ys) (ja_cons (je_m (jm_lc (own := [("one", 2), ("other", 3)]) (Ry := IsQ C) (fun q : Rat × Rat => !decide (q.1 = 0)) (fun q : Rat × Rat => q.1 * q.2) rfl nd (ji_zip (Rx := IsQ C) (Ry := IsQ C) (xs := xs) (ys := ys) (pi_zip rfl Z.zip (ja_cons (jv 0) (ja_cons (jv 1) ja_nil)))) (blkOk_by (by kernel_rfl)) (by decide) (fun s H C' cl fp q => jg2 2 3 nd) (fun s H C' cl fp q hx => jts_one (jt_eq (jt_cmp (pt_cmpR op_ne (jprop psign (hr.mono (by decide)) q.1 (jv 2 (R := IsQ C q.1)) rfl trivial rfl) jI (nomark _)) rop_neI) (by rw [q_sgn_0]))) (fun s H C' cl fp q hx _ => joQ (q := q.1) (r := q.2) omul (hr.mono (by decide)) (jv 2 (R := IsQ C q.1)) (jv 3 (R := IsQ C q.2)) (hp.f q hx)) (line_of (m := 1000) (by rw [List.length_zip]; omega)))) ja_nil) hp.s))
abbrev sp_table_led (C : Addr) : Sp := Pr (ι := List (List Rat) × List Rat) (fun w => [IsQM C w.1, IsL (IsQ C) w.2]) (fun w => w.1.length ≤ 1000 ∧ ∀ r ∈ w.1, DotP r w.2) (fun w => IsL (IsQ C) (ledR w.1 w.2))
abbrev Kn_table_led (P : Program) (w : World) (K : PySem.W.Frag) (mg : Str → Option Value) (base : Heap) (C : Addr) : Prop := Kn P w K mg base "table_led" 9 ["rows", "row"] (sp_table_led C)
theorem ok_table_led (Z : Glo K mg C) (k_dot : Kn_dot P w K mg base C) {f : Addr} {fd : FuncData} (Fd : FnP K "table_led" st_table_led f fd) : FnOk P w K mg base CX0 9 f fd ["rows", "row"] (sp_table_led C) := by
  refine fn_pr Fd sc_table_led (fun u => by first | rfl | (cases u <;> rfl)) (fun _ => False) (fun _ _ h => h.elim) (fun X u E hX hp hE => ?_)
  obtain ⟨cdv, A, outer, s, H, E', rfl, hr⟩ := hX
  refine PSs.nox ?_
  have nd := (sc_table_led).nd
  replace hr : Room 8 (cxOf CX0 P w K mg base N_table_led "table_led" (defScope st_table_led) f cdv A outer s H E').nox.A := hr
  obtain ⟨M, xs⟩ := u
  obtain ⟨h1, h2⟩ : M.length ≤ 1000 ∧ ∀ r ∈ M, DotP r xs := hp
  exact js_one (js_ret (je_m (jlc (Ry := IsQ C) (fun one : List Rat => dotR one xs) [("one", 2)] nd (ji_list (Rx := IsL (IsQ C)) (xs := M) (pi_list (jv 0))) (fun s H C' cl fp x => jg1 2 nd) (fun s H C' cl fp r hr' => jc k_dot hr (r, xs) (ja_cons (jv 2) (ja_cons (jv 1) ja_nil)) (h2 r hr')) (line_of (m := 1000) h1))))
abbrev sp_want_form (C : Addr) : Sp := Pr (ι := List (List Rat)) (fun w => [IsQM C w]) FormP (fun w => IsQM C w)
abbrev Kn_want_form (P : Program) (w : World) (K : PySem.W.Frag) (mg : Str → Option Value) (base : Heap) (C : Addr) : Prop := Kn P w K mg base "want_form" 7 ["value"] (sp_want_form C)
theorem ok_want_form (Z : Glo K mg C) (msz : ∃ t, mg "MOST_SIZE" = some (.int 12 t)) (k_are_table : Kn_are_table P w K mg base C) (k_told_table_2 : Kn_told_table_2 P w K mg base C) (k_turned_of : Kn_turned_of P w K mg base C) (oeq : EqK P w K mg base C 1) {f : Addr} {fd : FuncData} (Fd : FnP K "want_form" st_want_form f fd) : FnOk P w K mg base CX0 7 f fd ["value"] (sp_want_form C) := by
  refine fn_pr Fd sc_want_form (fun u => by first | rfl | (cases u <;> rfl)) (fun _ => False) (fun _ _ h => h.elim) (fun X u E hX hp hE => ?_)
  obtain ⟨cdv, A, outer, s, H, E', rfl, hr⟩ := hX
  refine PSs.nox ?_
  have nd := (sc_want_form).nd
  replace hr : Room 6 (cxOf CX0 P w K mg base N_want_form "want_form" (defScope st_want_form) f cdv A outer s H E').nox.A := hr
  rename List (List Rat) => M
  have hp : FormP M := hp
  have h1 := hp.lo
  have h2 := hp.hi
  have h3 := hp.sq
  obtain ⟨t8, g8⟩ := msz
  refine js_seq (G1 := G0 [IsQM C M] 2) (js_if (b1 := false) (jt_not (b1 := true) (jt_val (pt_val (jc k_are_table hr (M, 1, 12) (ja_cons (jv 0) (ja_cons jI (ja_cons (jgI g8) ja_nil))) ⟨h1, h2, by show M.length ≤ 1000; omega, h3⟩)))) (fun h => nomatch h) (fun _ => js_nil rfl)) ?_
  refine js_seq (js_set (R := IsQM C M) (ps_set (i := 1) nd rfl (.inl rfl) (jc k_told_table_2 hr M (ja_cons (jv 0) ja_nil) ⟨by omega, fun r hr' => by rw [h3 r hr']; omega⟩))) ?_
  refine js_seq (G1 := [.fz (IsQM C M), .fz (IsQM C M)]) (js_if (b1 := false) (jt_eq (jt_neMM oeq (hr.mono (by decide)) (jv 1 (R := IsQM C M)) (jc k_turned_of (hr.mono (by decide)) M (ja_cons (jv 1) ja_nil) ⟨h1, by omega, h3⟩) ?_) ?_) (fun h => nomatch h) (fun _ => js_nil rfl)) ?_
  · rw [← hp.tu]
  · rw [← hp.tu]; simp
  exact js_one (js_ret (jv 1))
abbrev sp_is_row (C : Addr) : Sp := Pr (ι := List Rat × Nat) (fun w => [IsU w.2, IsSN C w.1]) (fun w => w.1.length = w.2 ∧ w.2 ≤ 1000) (fun _ => IsB true)
abbrev Kn_is_row (P : Program) (w : World) (K : PySem.W.Frag) (mg : Str → Option Value) (base : Heap) (C : Addr) : Prop := Kn P w K mg base "is_row" 3 ["size", "value"] (sp_is_row C)
theorem ok_is_row (Z : Glo K mg C) (k_is_list : Kn_is_list P w K mg base C) (k_is_number : Kn_is_number P w K mg base C) {f : Addr} {fd : FuncData} (Fd : FnP K "is_row" st_is_row f fd) : FnOk P w K mg base CX0 3 f fd ["size", "value"] (sp_is_row C) := by
  refine fn_pr Fd sc_is_row (fun u => by first | rfl | (cases u <;> rfl)) (fun _ => False) (fun _ _ h => h.elim) (fun X u E hX hp hE => ?_)
  obtain ⟨cdv, A, outer, s, H, E', rfl, hr⟩ := hX
  refine PSs.nox ?_
  have nd := (sc_is_row).nd
  replace hr : Room 2 (cxOf CX0 P w K mg base N_is_row "is_row" (defScope st_is_row) f cdv A outer s H E').nox.A := hr
  obtain ⟨xs, n⟩ := u
  obtain ⟨h1, h2⟩ : xs.length = n ∧ n ≤ 1000 := hp
  refine js_one (js_ret (je_eq (je_and (b1 := true) (jc k_is_list (hr.mono (by decide)) () (ja_cons (je_conv (jv 1 (R := IsSN C xs)) sq_lt) ja_nil) trivial) fun _ => je_and (b1 := true) (b2 := true) (je_eq (je_op (pe_cmpR op_eq (jbB call_len Z.len boot_len (ja_cons (jv 1 (R := IsSN C xs)) ja_nil) rc_lenS) (jv 0 (R := IsU n)) (nomark _)) rop_eqI) ?_)
    fun _ => pe_one (je_eq (jbB (cr_all rfl) Z.all boot_all (ja_cons (je_m (jlc (Ry := IsB) (fun _ => true) [("number", 2)] nd (ji_seq (i := 1) (Rx := IsNm C) (xs := xs) (pi_list (pv 1)) (pi_tup (pv 1)) rfl) (fun s H C' cl fp x => jg1 2 nd) (fun s H C' cl fp x hx => jc k_is_number hr x (ja_cons (jv 2) ja_nil) trivial) (line_of (m := 1000) (by omega)))) ja_nil) rc_all) (by rw [all_true]))) rfl))
  rw [h1]; simp
abbrev sp_worth_of (C : Addr) : Sp := Pr (ι := List (List Rat) × List Rat) (fun w => [IsQM C w.1, IsL (IsQ C) w.2]) (fun w => w.1.length ≤ 1000 ∧ (∀ r ∈ w.1, DotP r w.2) ∧ DotP w.2 (ledR w.1 w.2)) (fun w => IsQ C (worthR w.1 w.2))
abbrev Kn_worth_of (P : Program) (w : World) (K : PySem.W.Frag) (mg : Str → Option Value) (base : Heap) (C : Addr) : Prop := Kn P w K mg base "worth_of" 10 ["form", "row"] (sp_worth_of C)
theorem ok_worth_of (Z : Glo K mg C) (k_dot : Kn_dot P w K mg base C) (k_table_led : Kn_table_led P w K mg base C) {f : Addr} {fd : FuncData} (Fd : FnP K "worth_of" st_worth_of f fd) : FnOk P w K mg base CX0 10 f fd ["form", "row"] (sp_worth_of C) := by
  refine fn_pr Fd sc_worth_of (fun u => by first | rfl | (cases u <;> rfl)) (fun _ => False) (fun _ _ h => h.elim) (fun X u E hX hp hE => ?_)
  obtain ⟨cdv, A, outer, s, H, E', rfl, hr⟩ := hX
  refine PSs.nox ?_
  have nd := (sc_worth_of).nd
  replace hr : Room 9 (cxOf CX0 P w K mg base N_worth_of "worth_of" (defScope st_worth_of) f cdv A outer s H E').nox.A := hr
  obtain ⟨M, xs⟩ := u
  obtain ⟨h1, h2, h3⟩ : M.length ≤ 1000 ∧ (∀ r ∈ M, DotP r xs) ∧ DotP xs (ledR M xs) := hp
  exact js_one (js_ret (jc k_dot (hr.mono (by decide)) (xs, ledR M xs) (ja_cons (jv 1) (ja_cons (jc k_table_led hr (M, xs) (ja_cons (jv 0) (ja_cons (jv 1) ja_nil)) ⟨h1, h2⟩) ja_nil)) h3))
abbrev sp_worth (C : Addr) : Sp := Pr (ι := List (List Rat) × List Rat) (fun w => [IsQM C w.1, IsSN C w.2]) (fun w => FormP w.1 ∧ w.2.length = w.1.length ∧ (∀ r ∈ w.1, DotP r w.2) ∧ DotP w.2 (ledR w.1 w.2)) (fun w => IsQ C (worthR w.1 w.2))
abbrev Kn_worth (P : Program) (w : World) (K : PySem.W.Frag) (mg : Str → Option Value) (base : Heap) (C : Addr) : Prop := Kn P w K mg base "worth" 11 ["form", "row"] (sp_worth C)
theorem ok_worth (Z : Glo K mg C) (k_want_form : Kn_want_form P w K mg base C) (k_is_row : Kn_is_row P w K mg base C) (k_worth_of : Kn_worth_of P w K mg base C) (k_ratio_of : Kn_ratio_of P w K mg base C) {f : Addr} {fd : FuncData} (Fd : FnP K "worth" st_worth f fd) : FnOk P w K mg base CX0 11 f fd ["form", "row"] (sp_worth C) := by
  refine fn_pr Fd sc_worth (fun u => by first | rfl | (cases u <;> rfl)) (fun _ => False) (fun _ _ h => h.elim) (fun X u E hX hp hE => ?_)
  obtain ⟨cdv, A, outer, s, H, E', rfl, hr⟩ := hX
  refine PSs.nox ?_
  have nd := (sc_worth).nd
  replace hr : Room 10 (cxOf CX0 P w K mg base N_worth "worth" (defScope st_worth) f cdv A outer s H E').nox.A := hr
  obtain ⟨M, xs⟩ := u
  obtain ⟨h1, h2, h3, h4⟩ : FormP M ∧ xs.length = M.length ∧ (∀ r ∈ M, DotP r xs) ∧ DotP xs (ledR M xs) := hp
  have hhi := h1.hi
  refine js_seq (js_set (R := IsQM C M) (ps_set (i := 2) nd rfl (.inl rfl) (jc k_want_form (hr.mono (by decide)) M (ja_cons (jv 0) ja_nil) h1))) ?_
  refine js_seq (G1 := [.fz (IsQM C M), .fz (IsSN C xs), .fz (IsQM C M), .un]) (js_if (b1 := false) (jt_not (b1 := true) (jt_val (pt_val (jc k_is_row (hr.mono (by decide)) (xs, M.length) (ja_cons (jbB call_len Z.len boot_len (ja_cons (jv 2 (R := IsQM C M)) ja_nil) rc_len) (ja_cons (jv 1) ja_nil)) ⟨h2, by show M.length ≤ 1000; omega⟩)))) (fun h => nomatch h) (fun _ => js_nil rfl)) ?_
  exact js_one (js_ret (jc k_worth_of hr (M, xs) (ja_cons (jv 2) (ja_cons (je_eq (je_m (jlc (Ry := IsQ C) (fun x => x) [("number", 3)] nd (ji_seq (i := 1) (Rx := IsNm C) (xs := xs) (pi_list (pv 1)) (pi_tup (pv 1)) rfl) (fun s H C' cl fp x => jg1 3 nd) (fun s H C' cl fp x hx => jc k_ratio_of (hr.mono (by decide)) x (ja_cons (jv 3) ja_nil) trivial) (line_of (m := 1000) (by omega)))) (by rw [List.map_id'])) ja_nil)) ⟨by show M.length ≤ 1000; omega, h3, h4⟩))
end
end Gw
set_option maxHeartbeats 4000000
/-! range from a place on; a new list of what stands in a list. -/
namespace Gw
open PySem PySem.Spec PyProof.Rows L2
section
variable {X : Cx} {E : En} {G : List Sl}
def fromTo (a n : Nat) : List Nat := (List.range (n - a)).map fun i => a + i
theorem fromTo_get {a n i x : Nat} (h : (fromTo a n)[i]? = some x) : x = a + i ∧ i < n - a := by
  unfold fromTo at h
  rw [List.getElem?_map] at h
  by_cases hi : i < n - a
  · rw [List.getElem?_range hi] at h
    exact ⟨(Option.some.inj h).symm, hi⟩
  · rw [List.getElem?_eq_none (by simpa using hi)] at h
    cases h
theorem ji_range2 {a n : Nat} {tg e : Expr} (ha : a < 2 ^ 62) (hn : n < 2 ^ 62) (p : PI X tg e (iRng2 (tA E G [IsU a, IsU n]))) : PI X tg e (tI E G IsU (fromTo a n)) := PI_imp p fun σ H Rj ⟨F, S, k⟩ =>
  ⟨F, S, fun vs F1 H1 g1 ar => by
    cases ar with
    | cons r t => cases t with
      | cons r2 t2 =>
        cases t2
        refine ⟨(a : Int), (n : Int), by rw [r.here, r2.here], ⟨by omega, by exact_mod_cast ha, by omega, by exact_mod_cast hn⟩, k _ F1 H1 g1 ?_⟩
        have hl : (fromTo a n).length = n - a := by simp [fromTo]
        have hm : ((n : Int) - (a : Int)).toNat = n - a := by omega
        refine ⟨fun i F2 H2 hi _ _ => ?_, fun F2 H2 _ _ => ?_, fun i x F2 H2 v H3 hx _ o y => ?_⟩
        · show i < ((n : Int) - (a : Int)).toNat
          rw [hl] at hi
          omega
        · show ((n : Int) - (a : Int)).toNat ≤ _
          rw [hl, hm]
          exact Nat.le_refl _
        · obtain ⟨rfl, rfl⟩ := y
          obtain ⟨rfl, _⟩ := fromTo_get hx
          exact ⟨F2, o.gr, fun _ _ => by show V.int ((a : Int) + (i : Int)) = V.int ((a + i : Nat) : Int); rw [Int.natCast_add]⟩⟩
theorem js_par3FMM {st : Stmt} {Rt : V → Hp → Hp → Prop} {Ra : V → Hp → Prop} {i j l : Nat} {Rm Rl : List V → Hp → Prop} (hij : i ≠ j) (hil : i ≠ l) (hjl : j ≠ l) (p : PS X st (tPar3 i j l (tCons (tE E G Ra) (tCons (tM E G Rm) (tCons (tM E G Rl) tNil))))) : PS X st (tS E G Rt (· = ((G.set i (.fz Ra)).set j (.mt Rm)).set l (.mt Rl))) := PS_imp p fun D σ H ⟨F, S, kn, kr⟩ =>
  ⟨F, S, fun v F0 H0 g0 u0 => ⟨F0, S.gr g0, fun q ws F1 H1 g1 n1 n2 n3 u1 => ⟨F1, S.gr (g0.trans g1), fun q' ws' F2 H2 g2 m1 m2 m3 u2 => ⟨v, .ref q, .ref q', rfl, by
    have nq : q ≠ q' := ne_of_none n3 m1
    have np : E.pp ≠ some q := fun z => by
      obtain ⟨_, x, y, h2, _⟩ := (S.gr g0).ok.p q z
      rw [n1] at h2
      cases h2
    have f2 : F2 q = none := by
      cases z : F2 q with
      | none => rfl
      | some o =>
        rcases g2.n q o z with w | w
        · rw [n2] at w; cases w
        · rw [n3] at w; cases w
    have S0 : Sat E (G.set i (.fz Ra)) (σ.set i (some v)) F2 H2 := (S.gr ((g0.trans g1).trans g2)).set_fz (u0.mono (g1.f.trans g2.f))
    have off : ∀ {k : Nat} {Rk : List V → Hp → Prop} {r : Addr}, (G.set i (.fz Ra))[k]? = some (.mt Rk) → (σ.set i (some v))[k]? = some (some (.ref r)) → G[k]? = some (.mt Rk) ∧ σ[k]? = some (some (.ref r)) := fun {k Rk r} hG hs => by
      by_cases z : k = i
      · subst z
        have hl : k < G.length := by
          have := (List.getElem?_eq_some_iff.mp hG).1
          simpa using this
        rw [List.getElem?_set_self hl] at hG
        cases hG
      · rw [List.getElem?_set_ne (Ne.symm z)] at hG hs
        exact ⟨hG, hs⟩
    have S1 := S0.set_mt (i := j) f2 ((S.gr g0).bs.back n1) (g2.k q _ n3 np) (u1.mono g2.f) fun k Rk hk hG hs => fresh_mt (S.gr g0) n1 (off hG hs).1 (off hG hs).2
    refine kn _ _ F2 H2 rfl (S1.set_mt m2 ((S.gr (g0.trans g1)).bs.back m1) m3 u2 fun k Rk hk hG hs => ?_) ((g0.trans g1).trans g2).f
    by_cases z : k = j
    · subst z
      have hl : k < (σ.set i (some v)).length := by
        have := (List.getElem?_eq_some_iff.mp hs).1
        simpa using this
      rw [List.getElem?_set_self hl] at hs
      cases hs
      exact nq rfl
    · rw [List.getElem?_set_ne (Ne.symm z)] at hG hs
      exact fresh_mt (S.gr (g0.trans g1)) m1 (off hG hs).1 (off hG hs).2⟩⟩⟩⟩
theorem js_asgSom {α : Type} {P : α → Prop} {R1 R2 : α → V → Hp → Prop} {st : Stmt} {Rt : V → Hp → Hp → Prop} {i j : Nat} {K : PySem.W.Frag} (p : PS X st (tAsg (tE E G (Som P (fun g => IsTp [R1 g, R2 g]))) (gTup K 2 (gCons (gName i) (gCons (gName j) gNil))))) : PS X st (tS E G Rt (fun G' => ∃ g, P g ∧ G' = (G.set i (.fz (R1 g))).set j (.fz (R2 g)))) := PS_imp p fun D σ H ⟨F, S, kn, kr⟩ =>
  ⟨F, S, fun v F1 H1 g1 u1 => by
    obtain ⟨g, pg, a, vs, rfl, ha, hu⟩ := u1.here
    have hu := hu.here
    cases hu with
    | cons r1 t1 =>
      cases t1 with
      | cons r2 t2 =>
        cases t2
        exact ⟨a, _, rfl, .inl (.inl ((S.gr g1).ok.s _ _ ha)), rfl, _, _, rfl, _, _, rfl, rfl, kn _ _ F1 H1 ⟨g, pg, rfl⟩ (((S.gr g1).set_fz r1).set_fz r2) g1.f⟩⟩
theorem rcm_list {α : Type} {Rx : α → V → Hp → Prop} {xs : List α} {K : PySem.W.Frag} {pp : Option Addr} : RCM pp (fun us H Q => ∃ p ys, us = [.ref p] ∧ (SqL K H p ys ∨ SqT K H p ys) ∧ ∀ l, H l = none → Q (.ref l) (upd H l (.lst ys))) [IsL Rx xs] (LsOf Rx xs) := fun vs F H Q ok a k => by
  cases a with
  | cons r t =>
    cases t
    obtain ⟨p, ys, rfl, h, u⟩ := r.here
    refine ⟨p, ys, rfl, .inl (SqL.of (ok.s _ _ h)), fun l hl => k l ys F _ (Gr.raw ok hl) hl ?_ upd_same u⟩
    cases e : F l with
    | none => rfl
    | some o => rw [ok.s _ _ e] at hl; cases hl
end
end Gw
set_option maxHeartbeats 4000000
namespace Gw
open PySem PySem.Spec PyProof.Rows L2
/-! ### a form parted into squares, as the text computes -/
def wsRow (row : List Rat) (number : Rat) (a : Nat) (r : List Rat) : List Rat := (r.zip row).map fun q => q.1 - number * row[a]! * q.2
def wsI (form : List (List Rat)) (place : Nat) (row : List Rat) (number : Rat) (k : Nat) : List (List Rat) := (enumN form).map fun p => if place ≤ p.1 ∧ p.1 < k ∧ row[p.1]! ≠ 0 then wsRow row number p.1 p.2 else p.2
def wsR (form : List (List Rat)) (place : Nat) (row : List Rat) (number : Rat) : List (List Rat) := wsI form place row number form.length
structure WsP (form : List (List Rat)) (place : Nat) (row : List Rat) (number : Rat) : Prop where
  n : form.length ≤ 1000
  sq : ∀ r ∈ form, r.length = form.length
  rl : row.length = form.length
  pl : place ≤ form.length
  f1 : ∀ a, place ≤ a → a < form.length → Fits number row[a]!
  f2 : ∀ a, place ≤ a → a < form.length → ∀ q ∈ (form[a]!).zip row, Fits (number * row[a]!) q.2 ∧ Fits q.1 (number * row[a]! * q.2)
theorem wsI_len (form : List (List Rat)) (place : Nat) (row : List Rat) (number : Rat) (k : Nat) : (wsI form place row number k).length = form.length := by
  unfold wsI
  rw [List.length_map, enumN_len]
theorem enumN_at {α : Type} [Inhabited α] {xs : List α} {i : Nat} (h : i < xs.length) : (enumN xs)[i]'(by rw [enumN_len]; exact h) = (i, xs[i]!) := by
  have h2 : i < (enumN xs).length := by rw [enumN_len]; exact h
  have := enumN_get (List.getElem?_eq_getElem h2)
  have e2 : xs[i]! = (enumN xs)[i].2 := by
    rw [getElem!_pos xs i h]
    have e := this.2
    rw [List.getElem?_eq_getElem h] at e
    exact Option.some.inj e
  exact Prod.ext this.1 e2.symm
theorem wsI_at {form : List (List Rat)} {place : Nat} {row : List Rat} {number : Rat} {k i : Nat} (h : i < form.length) : (wsI form place row number k)[i]! = if place ≤ i ∧ i < k ∧ row[i]! ≠ 0 then wsRow row number i form[i]! else form[i]! := by
  rw [getElem!_pos _ i (by rw [wsI_len]; exact h)]
  unfold wsI
  rw [List.getElem_map, enumN_at h]
theorem wsI_start (form : List (List Rat)) (place : Nat) (row : List Rat) (number : Rat) : wsI form place row number place = form := by
  apply List.ext_getElem
  · rw [wsI_len]
  · intro i h1 h2
    rw [← getElem!_pos (wsI form place row number place) i h1, wsI_at h2, if_neg (by omega), getElem!_pos form i h2]
theorem wsI_step {form : List (List Rat)} {place : Nat} {row : List Rat} {number : Rat} {a : Nat} (ha : a < form.length) (hp : place ≤ a) : wsI form place row number (a + 1) = if row[a]! ≠ 0 then (wsI form place row number a).set a (wsRow row number a form[a]!) else wsI form place row number a := by
  apply List.ext_getElem
  · rw [wsI_len]
    split
    · rw [List.length_set, wsI_len]
    · rw [wsI_len]
  · intro i h1 h2
    have hi : i < form.length := by rw [wsI_len] at h1; exact h1
    rw [← getElem!_pos (wsI form place row number (a + 1)) i h1, wsI_at hi]
    by_cases q : row[a]! ≠ 0
    · simp only [if_pos q]
      rw [List.getElem_set]
      by_cases e : a = i
      · subst e
        rw [if_pos rfl, if_pos ⟨hp, by omega, q⟩]
      · rw [if_neg e, ← getElem!_pos (wsI form place row number a) i (by rw [wsI_len]; exact hi), wsI_at hi]
        have : (place ≤ i ∧ i < a + 1 ∧ row[i]! ≠ 0) ↔ (place ≤ i ∧ i < a ∧ row[i]! ≠ 0) := by
          constructor
          · rintro ⟨h1, h2, h3⟩; exact ⟨h1, by omega, h3⟩
          · rintro ⟨h1, h2, h3⟩; exact ⟨h1, by omega, h3⟩
        simp only [this]
    · simp only [if_neg q]
      rw [← getElem!_pos (wsI form place row number a) i (by rw [wsI_len]; exact hi), wsI_at hi]
      have : (place ≤ i ∧ i < a + 1 ∧ row[i]! ≠ 0) ↔ (place ≤ i ∧ i < a ∧ row[i]! ≠ 0) := by
        constructor
        · rintro ⟨h1, h2, h3⟩
          refine ⟨h1, ?_, h3⟩
          by_cases e : i = a
          · subst e; exact absurd h3 q
          · omega
        · rintro ⟨h1, h2, h3⟩; exact ⟨h1, by omega, h3⟩
      simp only [this]
def sqR (L : List (List Rat)) (k : Nat) : List Rat := (L[k]!).map fun one => one / (L[k]!)[k]!
def leftR (form : List (List Rat)) : Nat → List (List Rat)
  | 0 => form
  | k + 1 => if 0 < ((leftR form k)[k]!)[k]! then wsR (leftR form k) k (sqR (leftR form k) k) ((leftR form k)[k]!)[k]! else leftR form k
structure PartP (form : List (List Rat)) : Prop where
  n : form.length ≤ 12
  l : ∀ k, k ≤ form.length → (leftR form k).length = form.length ∧ ∀ r ∈ leftR form k, r.length = form.length
  pos : ∀ k, k < form.length → 0 < ((leftR form k)[k]!)[k]! → (∀ x ∈ (leftR form k)[k]!, FitsO x ((leftR form k)[k]!)[k]!) ∧ WsP (leftR form k) k (sqR (leftR form k) k) ((leftR form k)[k]!)[k]!
  zer : ∀ k, k < form.length → ¬ 0 < ((leftR form k)[k]!)[k]! → ∀ x ∈ (leftR form k)[k]!, x = 0
abbrev Sqq : Type := Nat × Rat × List Rat
section
variable {P : Program} {w : World} {K : PySem.W.Frag} {mg : Str → Option Value} {base : Heap} {C : Addr}
abbrev IsSqq (C : Addr) (t : Sqq) : V → Hp → Prop := IsTp [IsU t.1, IsQ C t.2.1, IsL (IsQ C) t.2.2]
abbrev sp_without_square (C : Addr) : Sp := Pr (ι := List (List Rat) × Nat × List Rat × Rat) (fun w => [IsQM C w.1, IsU w.2.1, IsL (IsQ C) w.2.2.1, IsQ C w.2.2.2]) (fun w => WsP w.1 w.2.1 w.2.2.1 w.2.2.2) (fun w => IsQM C (wsR w.1 w.2.1 w.2.2.1 w.2.2.2))
abbrev Kn_without_square (P : Program) (w : World) (K : PySem.W.Frag) (mg : Str → Option Value) (base : Heap) (C : Addr) : Prop := Kn P w K mg base "without_square" 7 ["form", "place", "row", "number"] (sp_without_square C)
theorem ok_without_square (Z : Glo K mg C) (omul : Opr P w K mg base C .Mult 6 (fun w => Fits w.1 w.2) (· * ·)) (osub : Opr P w K mg base C .Sub 6 (fun w => Fits w.1 w.2) (· - ·)) (psign : PropK P w K mg base C "sign" 1 (sp_Rsign C)) {f : Addr} {fd : FuncData} (Fd : FnP K "without_square" st_without_square f fd) : FnOk P w K mg base CX0 7 f fd ["form", "place", "row", "number"] (sp_without_square C) := by
  refine fn_pr Fd sc_without_square (fun u => by first | rfl | (cases u <;> rfl)) (fun _ => False) (fun _ _ h => h.elim) (fun X u E hX hp hE => ?_)
  obtain ⟨cdv, A, outer, s, H, E', rfl, hr⟩ := hX
  refine PSs.nox ?_
  have nd := (sc_without_square).nd
  replace hr : Room 6 (cxOf CX0 P w K mg base N_without_square "without_square" (defScope st_without_square) f cdv A outer s H E').nox.A := hr
  obtain ⟨form, place, row, number⟩ := u
  have hp : WsP form place row number := hp
  have hn := hp.n
  have hpl := hp.pl
  have hrl := hp.rl
  show PSs _ _ (tS E _ (Rn (IsQM C (wsR form place row number))) _)
  refine js_seq (js_setM (Rm := LsOf (IsL (IsQ C)) form) (ps_set (i := 4) nd rfl (.inl rfl) (jm_cb (pe_callTy call_list_of rfl Z.list boot_list (ja_cons (jv 0 (R := IsQM C form)) ja_nil)) rcm_list))) ?_
  refine js_cons (N1 := fun G => ∃ s t, G = [.fz (IsQM C form), .fz (IsU place), .fz (IsL (IsQ C) row), .fz (IsQ C number), .mt (LsOf (IsL (IsQ C)) (wsR form place row number)), s, t, .un, .un]) (js_for PassesOwn.never rfl (ji_range2 (a := place) (n := form.length) (by omega) (by omega) (pi_range2 rfl Z.range (ja_cons (jv 1) (ja_cons (jbB call_len Z.len boot_len (ja_cons (jv 0 (R := IsQM C form)) ja_nil) rc_len) ja_nil)))) (fun x => jg1 5 nd) (fun i G => ∃ s t, G = [.fz (IsQM C form), .fz (IsU place), .fz (IsL (IsQ C) row), .fz (IsQ C number), .mt (LsOf (IsL (IsQ C)) (wsI form place row number (place + i))), s, t, .un, .un]) ⟨.un, .un, by rw [Nat.add_zero, wsI_start]; rfl⟩ ?_ (fun G1 h => ?_)) ?_
  · rintro i a G1 hi ⟨s, t, rfl⟩
    obtain ⟨rfl, hil⟩ := fromTo_get hi
    have hal : place + i < form.length := by omega
    have ham : form[place + i]! ∈ form := get_mem hal
    have hfl := hp.sq _ ham
    refine js_one (js_N (js_if (N := fun G => ∃ t, G = [.fz (IsQM C form), .fz (IsU place), .fz (IsL (IsQ C) row), .fz (IsQ C number), .mt (LsOf (IsL (IsQ C)) (wsI form place row number (place + (i + 1)))), .fz (IsU (place + i)), t, .un, .un]) (b1 := !decide (row[place + i]! = 0)) (jt_eq (jt_cmp (pt_cmpR op_ne (jprop psign (hr.mono (by decide)) row[place + i]! (je_op (pe_ix ix_list (jv 2 (R := IsL (IsQ C) row)) (jv 5 (R := IsU (place + i))) (fun _ _ => rfl)) (rop_ixB (by omega))) rfl trivial rfl) jI (nomark _)) rop_neI) (by rw [q_sgn_0])) (fun h => ?_) (fun h => ?_)) ?_)
    · have hne : row[place + i]! ≠ 0 := by simpa using h
      refine js_seq (js_set (R := IsQ C (number * row[place + i]!)) (ps_set (i := 6) nd rfl (.inr rfl) (joQ omul (hr.mono (by decide)) (jv 3) (je_op (pe_ix ix_list (jv 2 (R := IsL (IsQ C) row)) (jv 5 (R := IsU (place + i))) (fun _ _ => rfl)) (rop_ixB (by omega))) (hp.f1 _ (by omega) hal)))) ?_
      refine js_one (js_N (js_setitem (i := 4) (k := ((place + i : Nat) : Int)) (j := place + i) (R := IsL (IsQ C) (wsRow row number (place + i) form[place + i]!)) (Rm' := LsOf (IsL (IsQ C)) (wsI form place row number (place + (i + 1)))) (ti := fun _ _ _ => True) (ps_asg (je_m (jlc (Ry := IsQ C) (fun q : Rat × Rat => q.1 - number * row[place + i]! * q.2) [("one", 7), ("other", 8)] nd (ji_zip (Rx := IsQ C) (Ry := IsQ C) (xs := form[place + i]!) (ys := row) (pi_zip rfl Z.zip (ja_cons (je_op (pe_ix ix_list (jv 0 (R := IsQM C form)) (jv 5 (R := IsU (place + i))) (fun _ _ => rfl)) (rop_ixB hal)) (ja_cons (jv 2) ja_nil)))) (fun s H C' cl fp q => jg2 7 8 nd) (fun s H C' cl fp q hx => joQ (q := q.1) (r := number * row[place + i]! * q.2) osub (hr.mono (by decide)) (jv 7 (R := IsQ C q.1)) (joQ (q := number * row[place + i]!) (r := q.2) omul (hr.mono (by decide)) (jv 6) (jv 8 (R := IsQ C q.2)) (hp.f2 _ (by omega) hal q hx).1) (hp.f2 _ (by omega) hal q hx).2) (line_of (m := 1000) (by rw [List.length_zip]; omega)))) (pg_sub (pv 4) (jv 5) set_list)) rfl (fun vs F q => gw_ixN (by rw [← q.len, wsI_len]; exact hal)) (fun vs v F p q => ?_)) ?_)
      · rw [show place + (i + 1) = place + i + 1 by omega, wsI_step hal (by omega), if_pos hne]
        exact LsOf.up (paired_set p.here q _)
      · rintro G' rfl
        exact ⟨_, rfl⟩
    · have hz : ¬ row[place + i]! ≠ 0 := by simpa using h
      refine js_nil ⟨t, ?_⟩
      rw [show place + (i + 1) = place + i + 1 by omega, wsI_step hal (by omega), if_neg hz]
      rfl
    · rintro G' ⟨t, rfl⟩
      exact ⟨_, _, rfl⟩
  · obtain ⟨s, t, rfl⟩ := h
    refine ⟨s, t, ?_⟩
    have : place + (fromTo place form.length).length = form.length := by simp [fromTo]; omega
    rw [this]
    rfl
  · rintro _ ⟨s, t, rfl⟩
    exact js_one (js_retV (pv 4) rfl)
abbrev sp_parted_of (C : Addr) : Sp := Pr (ι := List (List Rat)) (fun w => [IsQM C w]) PartP (fun _ => IsTp [IsAL, IsN])
abbrev Kn_parted_of (P : Program) (w : World) (K : PySem.W.Frag) (mg : Str → Option Value) (base : Heap) (C : Addr) : Prop := Kn P w K mg base "parted_of" 8 ["form"] (sp_parted_of C)
theorem ok_parted_of (Z : Glo K mg C) (k_without_square : Kn_without_square P w K mg base C) (psign : PropK P w K mg base C "sign" 1 (sp_Rsign C)) (mover : MethK P w K mg base C "over" 6 ["self", "other"] (sp_Rover C)) {f : Addr} {fd : FuncData} (Fd : FnP K "parted_of" st_parted_of f fd) : FnOk P w K mg base CX0 8 f fd ["form"] (sp_parted_of C) := by
  refine fn_pr Fd sc_parted_of (fun u => by first | rfl | (cases u <;> rfl)) (fun _ => False) (fun _ _ h => h.elim) (fun X u E hX hp hE => ?_)
  obtain ⟨cdv, A, outer, s, H, E', rfl, hr⟩ := hX
  refine PSs.nox ?_
  have nd := (sc_parted_of).nd
  replace hr : Room 7 (cxOf CX0 P w K mg base N_parted_of "parted_of" (defScope st_parted_of) f cdv A outer s H E').nox.A := hr
  rename List (List Rat) => form
  have hp : PartP form := hp
  have hn := hp.n
  refine js_seq (js_parFM (i := 1) (j := 2) (Ra := IsQM C (leftR form 0)) (Rm := SomM (fun l : List Sqq => l.length ≤ 0) (fun l => LsOf (IsSqq C) l)) (by decide) (ps_par (i := 1) (j := 2) rfl nd rfl rfl (by decide) rfl rfl (pa_cons (jv 0) (pa_cons (jm_conv (jm_ls (R := IsSqq C) [] (jm_lst (pe_lst ja_nil))) (fun vs F h => ⟨[], by decide, h⟩)) pa_nil)) rfl)) ?_
  refine js_cons (N1 := fun G => ∃ m s3 s4 s5, m ≤ form.length ∧ G = [.fz (IsQM C form), .fz (IsQM C (leftR form form.length)), .mt (SomM (fun l : List Sqq => l.length ≤ m) (fun l => LsOf (IsSqq C) l)), s3, s4, s5, .un]) (js_for PassesOwn.never rfl (ji_rangeN (n := form.length) (by omega) (pi_range1 rfl Z.range (ja_cons (jbB call_len Z.len boot_len (ja_cons (jv 0 (R := IsQM C form)) ja_nil) rc_len) ja_nil))) (fun x => jg1 3 nd) (fun i G => ∃ m s3 s4 s5, m ≤ i ∧ G = [.fz (IsQM C form), .fz (IsQM C (leftR form i)), .mt (SomM (fun l : List Sqq => l.length ≤ m) (fun l => LsOf (IsSqq C) l)), s3, s4, s5, .un]) ⟨0, _, _, _, Nat.le_refl _, rfl⟩ ?_ (fun G1 h => by rwa [List.length_range] at h)) ?_
  · rintro i p G1 hi ⟨m, s3, s4, s5, hm, rfl⟩
    have hin : i < form.length := by have := (List.getElem?_eq_some_iff.mp hi).1; simpa using this
    have hpi : p = i := by
      rw [List.getElem?_range hin] at hi
      exact (Option.some.inj hi).symm
    subst hpi
    obtain ⟨ll, lr⟩ := hp.l p (by omega)
    have hlm : (leftR form p)[p]! ∈ leftR form p := get_mem (by omega)
    have hll := lr _ hlm
    have hpos := hp.pos p hin
    have hzer := hp.zer p hin
    have hsucc : leftR form (p + 1) = if 0 < ((leftR form p)[p]!)[p]! then wsR (leftR form p) p (sqR (leftR form p) p) ((leftR form p)[p]!)[p]! else leftR form p := rfl
    generalize hL : leftR form p = L at *
    generalize hnum : (L[p]!)[p]! = number at *
    refine js_seq (js_set (R := IsQ C number) (ps_set (i := 4) nd rfl (.inr rfl) (je_eq (je_op (pe_ix ix_list (je_op (pe_ix ix_list (jv 1 (R := IsQM C L)) (jv 3 (R := IsU p)) (fun _ _ => rfl)) (rop_ixB (by omega))) (jv 3 (R := IsU p)) (fun _ _ => rfl)) (rop_ixB (by omega))) (by rw [hnum])))) ?_
    refine js_one (js_if (b1 := decide (0 < number)) (jt_eq (jt_cmp (pt_cmpR op_gt (jprop psign (hr.mono (by decide)) number (jv 4) rfl trivial rfl) jI (nomark _)) rop_gt) (by rw [q_sgn_pos])) (fun h => ?_) (fun h => ?_))
    · have h := of_decide_eq_true h
      obtain ⟨f1, f2⟩ := hpos h
      refine js_seq (jslc (i := 5) (Ry := IsQ C) (fun one : Rat => one / number) [("one", 6)] nd (ji_list (Rx := IsQ C) (xs := L[p]!) (pi_list (je_op (pe_ix ix_list (jv 1 (R := IsQM C L)) (jv 3 (R := IsU p)) (fun _ _ => rfl)) (rop_ixB (by omega))))) (fun s H C' cl fp x => jg1 6 nd) (fun s H C' cl fp x hx => jmeth mover (hr.mono (by decide)) (x, number) (jv 6) (ja_cons (je_conv (jv 4 (R := IsQ C number)) isQ_nm) ja_nil) rfl (f1 x hx)) (line_of (m := 1000) (by omega))) ?_
      refine js_frz (i := 5) rfl ?_
      have hsq : (L[p]!).map (fun one : Rat => one / number) = sqR L p := by unfold sqR; rw [hnum]
      rw [hsq]
      refine js_seq (js_set (R := IsQM C (leftR form (p + 1))) (ps_set (i := 1) nd rfl (.inl rfl) (je_eq (jc k_without_square hr (L, p, sqR L p, number) (ja_cons (jv 1) (ja_cons (jv 3) (ja_cons (jv 5) (ja_cons (jv 4) ja_nil)))) f2) (by rw [hsucc, if_pos h])))) ?_
      refine js_one (js_N (js_append (i := 2) (R := IsSqq C (p, number, sqR L p)) (Rm' := SomM (fun l : List Sqq => l.length ≤ m + 1) (fun l => LsOf (IsSqq C) l)) (ps_expr (pe_bm PySem.F.plainAttrs_list PySem.F.slot_list_append PySem.F.type_list_append mt_append (pv 2) (pa_cons (je_tup (pe_tup (ja_cons (jv 3 (R := IsU p)) (ja_cons (jv 4 (R := IsQ C number)) (ja_cons (jv 5 (R := IsL (IsQ C) (sqR L p))) ja_nil))))) pa_nil))) rfl (fun vs v F a b => ?_) (fun vs F a => ?_)) ?_)
      · obtain ⟨l, h1, h2⟩ := a.here
        exact fun F' e' => ⟨l ++ [(p, number, sqR L p)], by show (l ++ [(p, number, sqR L p)]).length ≤ m + 1; rw [List.length_append, List.length_singleton]; omega, (LsOf.snoc h2 b).up F' e'⟩
      · obtain ⟨l, h1, h2⟩ := a
        rw [← h2.len]
        exact line_of (m := 1000) (by omega)
      · rintro G' rfl
        exact ⟨m + 1, _, _, _, by omega, rfl⟩
    · have h := of_decide_eq_false h
      have hz := hzer h
      have hn0 : number = 0 := by
        rw [← hnum]
        exact hz _ (get_mem (by omega))
      refine js_one (js_if (b1 := false) (jt_eq (PW.pt (jw_or (b1 := false) (b2 := false) (jt_eq (jt_cmp (pt_cmpR op_lt (jprop psign (hr.mono (by decide)) number (jv 4) rfl trivial rfl) jI (nomark _)) rop_lt) (by rw [q_sgn_neg, hn0]; decide)) fun _ => jw_or1 (jt_val (pt_val (je_eq (jbB (cr_any rfl) Z.any boot_any (ja_cons (je_m (jlc (Ry := IsB) (fun _ => false) [("one", 6)] nd (ji_list (Rx := IsQ C) (xs := L[p]!) (pi_list (je_op (pe_ix ix_list (jv 1 (R := IsQM C L)) (jv 3 (R := IsU p)) (fun _ _ => rfl)) (rop_ixB (by omega))))) (fun s H C' cl fp x => jg1 6 nd) (fun s H C' cl fp x hx => je_eq (je_op (pe_cmpR op_ne (jprop psign (hr.mono (by decide)) x (jv 6 (R := IsQ C x)) rfl trivial rfl) jI (nomark _)) rop_neI) (by rw [q_sgn_0, hz x hx]; rfl)) (line_of (m := 1000) (by omega)))) ja_nil) rc_any) (by congr 1; simp)))))) rfl) (fun h => nomatch h) (fun _ => js_nil ?_))
      exact ⟨m, .fz (IsU p), .fz (IsQ C number), s5, by omega, by rw [hsucc, if_neg h]; rfl⟩
  · rintro _ ⟨m, s3, s4, s5, hm, rfl⟩
    refine js_openM (i := 2) rfl (fun x vs F F' h e => LsOf.up h F' e) (fun l hl => ?_)
    refine js_frz (i := 2) rfl ?_
    exact js_one (js_ret (je_tup (Rs := [IsAL, IsN]) (pe_tup (ja_cons (je_conv (je_m (jlc (Ry := fun q : Rat × List Rat => IsTp [IsQ C q.1, IsL (IsQ C) q.2]) (fun t : Sqq => (t.2.1, t.2.2)) [("place", 3), ("number", 4), ("square", 5)] nd (ji_list (Rx := IsSqq C) (xs := l) (pi_list (jv 2))) (fun s H C' cl fp x => jg3 3 4 5 nd) (fun s H C' cl fp t ht => je_tup (pe_tup (ja_cons (jv 4 (R := IsQ C t.2.1)) (ja_cons (jv 5 (R := IsL (IsQ C) t.2.2)) ja_nil)))) (line_of (m := 1000) (by omega)))) lst_al) (ja_cons jNon ja_nil)))))
abbrev sp_is_never_below_of (C : Addr) : Sp := Pr (ι := List (List Rat)) (fun w => [IsQM C w]) PartP (fun _ => IsB true)
abbrev Kn_is_never_below_of (P : Program) (w : World) (K : PySem.W.Frag) (mg : Str → Option Value) (base : Heap) (C : Addr) : Prop := Kn P w K mg base "is_never_below_of" 9 ["form"] (sp_is_never_below_of C)
theorem ok_is_never_below_of (Z : Glo K mg C) (k_parted_of : Kn_parted_of P w K mg base C) {f : Addr} {fd : FuncData} (Fd : FnP K "is_never_below_of" st_is_never_below_of f fd) : FnOk P w K mg base CX0 9 f fd ["form"] (sp_is_never_below_of C) := by
  refine fn_pr Fd sc_is_never_below_of (fun u => by first | rfl | (cases u <;> rfl)) (fun _ => False) (fun _ _ h => h.elim) (fun X u E hX hp hE => ?_)
  obtain ⟨cdv, A, outer, s, H, E', rfl, hr⟩ := hX
  refine PSs.nox ?_
  have nd := (sc_is_never_below_of).nd
  replace hr : Room 8 (cxOf CX0 P w K mg base N_is_never_below_of "is_never_below_of" (defScope st_is_never_below_of) f cdv A outer s H E').nox.A := hr
  rename List (List Rat) => form
  exact js_one (js_ret (je_op (pe_cmpR op_isN (je_op (pe_ix ix_tup (jc k_parted_of hr form (ja_cons (jv 0) ja_nil) hp) jI (fun _ _ => rfl)) (rop_ixT (j := 1) (Rx := IsN) rfl)) jNon (nomark _)) (rop_isN (fun v F h => by rw [show v = V.non from h]; rfl))))
abbrev sp_is_never_below (C : Addr) : Sp := Pr (ι := List (List Rat)) (fun w => [IsQM C w]) (fun w => FormP w ∧ PartP w) (fun _ => IsB true)
abbrev Kn_is_never_below (P : Program) (w : World) (K : PySem.W.Frag) (mg : Str → Option Value) (base : Heap) (C : Addr) : Prop := Kn P w K mg base "is_never_below" 10 ["form"] (sp_is_never_below C)
theorem ok_is_never_below (Z : Glo K mg C) (k_want_form : Kn_want_form P w K mg base C) (k_is_never_below_of : Kn_is_never_below_of P w K mg base C) {f : Addr} {fd : FuncData} (Fd : FnP K "is_never_below" st_is_never_below f fd) : FnOk P w K mg base CX0 10 f fd ["form"] (sp_is_never_below C) := by
  refine fn_pr Fd sc_is_never_below (fun u => by first | rfl | (cases u <;> rfl)) (fun _ => False) (fun _ _ h => h.elim) (fun X u E hX hp hE => ?_)
  obtain ⟨cdv, A, outer, s, H, E', rfl, hr⟩ := hX
  refine PSs.nox ?_
  have nd := (sc_is_never_below).nd
  replace hr : Room 9 (cxOf CX0 P w K mg base N_is_never_below "is_never_below" (defScope st_is_never_below) f cdv A outer s H E').nox.A := hr
  rename List (List Rat) => form
  exact js_one (js_ret (jc k_is_never_below_of hr form (ja_cons (jc k_want_form (hr.mono (by decide)) form (ja_cons (jv 0) ja_nil) hp.1) ja_nil) hp.2))
end
end Gw
set_option maxHeartbeats 4000000
namespace Gw
open PySem PySem.Spec PyProof.Rows L2
theorem szw {x : Nat} (h : 1 ≤ x ∧ x ≤ 4) : Sz 4 (((x : Nat) : Int) : Rat) := Sz.int (by decide) (by rw [Int.natAbs_natCast]; omega)
theorem Sz.div {n m : Nat} {q r : Rat} (h : Sz n q) (k : Sz m r) (hr : r ≠ 0) : Sz (n + m) (q / r) := by
  have hn : r.num ≠ 0 := fun e => hr (Rat.num_eq_zero.mp e)
  have hb : (q.den : Int) * r.num ≠ 0 := Int.mul_ne_zero (q_den0 q) hn
  rw [← q_over]
  constructor
  · refine Nat.lt_of_le_of_lt (num_le _ _ hb) ?_
    rw [Int.natAbs_mul, Nat.pow_add, Int.natAbs_natCast]
    exact Nat.mul_lt_mul'' h.1 k.2
  · refine Nat.lt_of_le_of_lt (den_le _ _ hb) ?_
    rw [Int.natAbs_mul, Nat.pow_add, Int.natAbs_natCast]
    exact Nat.mul_lt_mul'' h.2 k.1
/-! ### what the law is about, in plain words -/
structure RowG (n : Nat) (r : List Rat) : Prop where
  l : r.length = n
  x : ∀ x ∈ r, 0 ≤ x ∧ x.den ∣ 60
  s : sumR r = 1
structure Good0 (n : Nat) (B : List (List Rat)) : Prop where
  l : B.length = n
  r : ∀ r ∈ B, RowG n r
def wQ (ws : List Nat) : List Rat := ws.map fun x => (((x : Nat) : Int) : Rat)
def gQ (gs : List RwG) : List (List (Rat × Rat)) := gs.map fun g => g.map handed
def permL {α : Type} [Inhabited α] (o : List Nat) (xs : List α) : List α := o.map fun a => xs[a]!
def permM (o : List Nat) (B : List (List Rat)) : List (List Rat) := o.map fun a => o.map fun t => (B[a]!)[t]!
def nums : List Rat := [((2 : Int) : Rat), Rat.divInt 1 3, Rat.divInt 5 2, ((7 : Int) : Rat)]
def sureQ (n : Nat) : List (List (Rat × Rat)) := List.replicate n [(((1 : Int) : Rat), ((1 : Int) : Rat))]
def uniB (n : Nat) : List (List Rat) := List.replicate n (List.replicate n (Rat.divInt 1 (n : Int)))
/-- a case of the law -/
structure Case (n : Nat) (B : List (List Rat)) (ws : List Nat) (gs : List RwG) : Prop where
  n2 : n = 2 ∨ n = 3
  b : Good0 n B
  c : Conn2 B
  wl : ws.length = n
  w : ∀ x ∈ ws, 1 ≤ x ∧ x ≤ 4
  gl : gs.length = n
  g : ∀ g ∈ gs, g ∈ rwGs
/-! ### kinds turned -/
theorem ls_imp {α : Type} {R R' : α → V → Hp → Prop} {xs : List α} {vs : List V} {F : Hp} (h : LsOf R xs vs F) (k : ∀ x v F, R x v F → R' x v F) : LsOf R' xs vs F := Paired.mapP h fun x v u => u.imp fun F q => k x v F q
theorem ls_map {α β : Type} {R : α → V → Hp → Prop} {R' : β → V → Hp → Prop} {g : α → β} {xs : List α} {vs : List V} {F : Hp} (h : LsOf R xs vs F) (k : ∀ x v F, R x v F → R' (g x) v F) : LsOf R' (xs.map g) vs F := by
  unfold LsOf at h ⊢
  induction h with
  | nil => exact .nil
  | cons r t ih => exact .cons (r.imp fun F q => k _ _ F q) ih
theorem lst_to {R R' : List V → Hp → Prop} (k : ∀ vs F, R vs F → R' vs F) : ∀ v F, LstOf R v F → LstOf R' v F := fun v F ⟨a, vs, e, h, u⟩ => ⟨a, vs, e, h, u.imp fun F q => k vs F q⟩
theorem tup_to {R R' : List V → Hp → Prop} (k : ∀ vs F, R vs F → R' vs F) : ∀ v F, TupOf R v F → TupOf R' v F := fun v F ⟨a, vs, e, h, u⟩ => ⟨a, vs, e, h, u.imp fun F q => k vs F q⟩
section
variable {C : Addr}
theorem ql_sn {xs : List Rat} : ∀ v F, IsL (IsQ C) xs v F → IsSN C xs v F := fun v F h => .inl (lst_to (fun vs F q => ls_imp q fun x v F r => .inl r) v F h)
theorem qt_sn {xs : List Rat} : ∀ v F, IsTs (IsQ C) xs v F → IsSN C xs v F := fun v F h => .inr (tup_to (fun vs F q => ls_imp q fun x v F r => .inl r) v F h)
theorem qm_snm {M : List (List Rat)} : ∀ v F, IsQM C M v F → IsSNM C M v F := fun v F h => .inl (lst_to (fun vs F q => ls_imp q fun x v F r => ql_sn v F r) v F h)
theorem qtt_snm {M : List (List Rat)} : ∀ v F, IsTs (IsTs (IsQ C)) M v F → IsSNM C M v F := fun v F h => .inr (tup_to (fun vs F q => ls_imp q fun x v F r => qt_sn v F r) v F h)
theorem ul_sn {ws : List Nat} : ∀ v F, IsL IsU ws v F → IsSN C (wQ ws) v F := fun v F h => .inl (lst_to (fun vs F q => ls_map q fun x v F r => .inr ⟨(x : Int), rfl, r⟩) v F h)
theorem nt_sn {xs : List Rat} : ∀ v F, IsTs (IsNm C) xs v F → IsSN C xs v F := fun v F h => .inr h
theorem pq_pn {p : Rat × Rat} : ∀ v F, IsPq C p v F → IsPn C p v F := isTp_imp (.cons (fun v F h => .inl h) (.cons (fun v F h => .inl h) .nil))
theorem gq_sg {g : List (Rat × Rat)} : ∀ v F, IsGQ C g v F → IsSG C g v F := fun v F h => .inl (lst_to (fun vs F q => ls_imp q fun x v F r => pq_pn v F r) v F h)
theorem gqt_sg {g : List (Rat × Rat)} : ∀ v F, IsTs (IsPq C) g v F → IsSG C g v F := fun v F h => .inr (tup_to (fun vs F q => ls_imp q fun x v F r => pq_pn v F r) v F h)
theorem gl_sg {gs : List (List (Rat × Rat))} : ∀ v F, IsL (IsGQ C) gs v F → IsSq (IsSG C) gs v F := fun v F h => .inl (lst_to (fun vs F q => ls_imp q fun x v F r => gq_sg v F r) v F h)
theorem gt_sg {gs : List (List (Rat × Rat))} : ∀ v F, IsTs (IsTs (IsPq C)) gs v F → IsSq (IsSG C) gs v F := fun v F h => .inr (tup_to (fun vs F q => ls_imp q fun x v F r => gqt_sg v F r) v F h)
theorem su_sg {gs : List (List (Rat × Rat))} : ∀ v F, IsL (IsL (IsPn C)) gs v F → IsSq (IsSG C) gs v F := fun v F h => .inl (lst_to (fun vs F q => ls_imp q fun x v F r => .inl r) v F h)
theorem rop_NI {pp : Option Addr} {q : Rat} {w : Int} {E' : XK} (hw : w.natAbs < 2 ^ 4) (hq : Sz 20 q) : ROp pp (fun x y H Q => rI CMulW (fun i j => .int (i * j)) x y H Q ∨ rOwnI C (spq C (fun w => Fits w.1 w.2) (· * ·)) E' x y H Q) (IsNm C q) (IsI w) (IsNm C (q * (w : Rat))) := fun x y F H Q ok u1 u2 k => by
  rcases u1.here with h | ⟨i, e, h⟩
  · exact .inr (rop_ownI (C := C) (q := q) (Rf := fun w => IsQ C (w.1 * w.2)) (pre := fun w => Fits w.1 w.2) (hq.fits (Sz.int (n := 4) (by decide) hw) (by decide)) x y F H Q ok h.up u2 fun z F' H' g u => k z F' H' g (u.imp fun F r => .inl r))
  · subst e
    have hi : i.natAbs < 2 ^ 20 := by have := hq.1; rwa [Rat.num_intCast] at this
    refine .inl (rop_mulW (i := i) (j := w) (mulW_of hi hw (by decide) (by decide) (by decide)) x y F H Q ok (fun _ _ => h) u2 fun z F' H' g u => k z F' H' g (u.imp fun F r => .inr ⟨i * w, ?_, r⟩))
    rw [Rat.intCast_mul]
theorem joNI {X : Cx} {E : En} {G : List Sl} {a b : Expr} {pos : Pos} {k : Nat} {q : Rat} {w : Int} (T : Opr X.prog X.w X.K X.mg X.base C .Mult k (fun w => Fits w.1 w.2) (· * ·)) (hr : Room k X.A) (ha : PE X a (tE E G (IsNm C q))) (hb : PE X b (tE E G (IsI w))) (hw : w.natAbs < 2 ^ 4) (hq : Sz 20 q) : PE X (.BinOp a .Mult b pos) (tE E G (IsNm C (q * (w : Rat)))) := by
  obtain ⟨f, g, fd, O, ok, bd⟩ := T
  exact je_op (pe_op (opR_or op_mulW (op_ownI (E' := E0) O ok hr bd)) ha hb) (rop_NI hw hq)
end
end Gw
set_option maxHeartbeats 4000000
namespace Gw
open PySem PySem.Spec PyProof.Rows L2
structure LawF (M : List (List Rat)) : Prop where
  n : M.length = 2 ∨ M.length = 3
  sq : ∀ r ∈ M, r.length = M.length
  a : (0 : Rat) ≤ (M[0]!)[0]!
  d : (0 : Rat) ≤ (M[1]!)[1]!
  f1 : Fits (M[0]!)[0]! (M[1]!)[1]!
  f2 : Fits (M[0]!)[1]! (M[1]!)[0]!
  f3 : Fits ((M[0]!)[0]! * (M[1]!)[1]!) ((M[0]!)[1]! * (M[1]!)[0]!)
  m : (0 : Rat) ≤ (M[0]!)[0]! * (M[1]!)[1]! - (M[0]!)[1]! * (M[1]!)[0]!
def intsQ (xs : List Int) : List Rat := xs.map fun (i : Int) => (i : Rat)
def lessR (S W : List (List Rat)) : List (List Rat) := (S.zip W).map fun p => (p.1.zip p.2).map fun q => q.2 - q.1
structure WorP (M : List (List Rat)) (xs : List Rat) : Prop where
  l : xs.length = M.length
  r : ∀ r ∈ M, DotP r xs
  d : DotP xs (ledR M xs)
structure LessP (n : Nat) (S W : List (List Rat)) : Prop where
  sl : S.length = n
  sr : ∀ r ∈ S, r.length = n
  wl : W.length = n
  wr : ∀ r ∈ W, r.length = n
  f : ∀ p ∈ S.zip W, ∀ q ∈ p.1.zip p.2, Fits q.2 q.1
  l1 : LawF (lessR S W)
  l2 : LawF S
  l3 : LawF W
  fo : FormP (lessR S W)
  pa : PartP (lessR S W)
  fs : FormP S
  fw : FormP W
  fn : ∀ xs : List Int, xs.length = n → (∀ x ∈ xs, -3 ≤ x ∧ x ≤ 3) → WorP S (intsQ xs) ∧ WorP W (intsQ xs) ∧ Fits (worthR S (intsQ xs)) (worthR W (intsQ xs)) ∧ worthR S (intsQ xs) ≤ worthR W (intsQ xs)
def nearQ (ps : List (RwG × RwG)) : List (List (Rat × Rat)) := gQ (ps.map fun p => p.1)
def farQ (ps : List (RwG × RwG)) : List (List (Rat × Rat)) := gQ (ps.map fun p => p.2)
structure Case4 (n : Nat) (B : List (List Rat)) (ws : List Nat) (ps : List (RwG × RwG)) : Prop where
  n2 : n = 2 ∨ n = 3
  b : Good0 n B
  c : Conn2 B
  wl : ws.length = n
  w : ∀ x ∈ ws, 1 ≤ x ∧ x ≤ 4
  pl : ps.length = n
  p : ∀ p ∈ ps, p ∈ rwPs
structure MathQ : Prop where
  row : ∀ n xs, n ≤ 3 → DrR n xs → RowG n (rowQ xs)
  uni : ∀ n, n = 2 ∨ n = 3 → Good0 n (uniB n) ∧ Conn2 (uniB n)
  hi : ∀ p ∈ rwPs, GuessP (p.1.map handed) ∧ GuessP (p.2.map handed) ∧ ∀ q ∈ p.2.map handed, ¬ aboveR (p.2.map handed) q.2 < aboveR (p.1.map handed) q.2
  g : ∀ n B ws ps, Case4 n B ws ps → GtP B (wQ ws) (nearQ ps) ∧ GtP B (wQ ws) (farQ ps)
  m : ∀ n B ws ps, Case4 n B ws ps → LessP n (guessedR B (wQ ws) (nearQ ps)) (guessedR B (wQ ws) (farQ ps))
  z : ∀ n B ws ps, Case4 n B ws ps → nearQ ps = farQ ps → ∀ r ∈ lessR (guessedR B (wQ ws) (nearQ ps)) (guessedR B (wQ ws) (farQ ps)), ∀ x ∈ r, x = 0
section
variable {C : Addr}
theorem il_sn {xs : List Int} : ∀ v F, IsL IsI xs v F → IsSN C (intsQ xs) v F := fun v F h => .inl (lst_to (fun vs F q => ls_map q fun x v F r => .inr ⟨x, rfl, r⟩) v F h)
theorem rop_notB {pp : Option Addr} {a b : Bool} : ROp pp rNotB (IsB a) (IsB b) (IsB (!decide (a = b))) := fun x y F H Q ok u1 u2 k => ⟨a, b, u1.here, u2.here, k _ F H ok.gr fun F' _ => rfl⟩
theorem flt0 {α β : Type} (l : List α) (f : α → β) : (l.filter fun _ => false).map f = [] := by simp
theorem nil_nil {R : Rat → V → Hp → Prop} : ∀ v F, IsL R ([] : List Rat) v F → IsL IsI [] v F := fun v F ⟨a, vs, e, h, u⟩ => ⟨a, vs, e, h, u.imp fun F q => by
  cases q
  exact .nil⟩
theorem args4 {R0 R1 R2 : V → Hp → Prop} {vs ws : List V} {F : Hp} (a : Args [R0] vs F) (b : Args [R2, R1] ws F) : Args [R0, R1, R2] (vs ++ [ws.getD 1 .non, ws.getD 0 .non]) F := by
  cases a with
  | cons r t =>
    cases t
    cases b with
    | cons r2 t2 => cases t2 with
      | cons r3 t3 =>
        cases t3
        exact .cons r (.cons r3 (.cons r2 .nil))
end
section
variable {P : Program} {w : World} {K : PySem.W.Frag} {mg : Str → Option Value} {base : Heap} {C : Addr}
abbrev sp__law_is_form (C : Addr) : Sp := Pr (ι := List (List Rat)) (fun w => [IsQM C w]) LawF (fun _ => IsB true)
abbrev Kn__law_is_form (P : Program) (w : World) (K : PySem.W.Frag) (mg : Str → Option Value) (base : Heap) (C : Addr) : Prop := Kn P w K mg base "_law_is_form" 8 ["table"] (sp__law_is_form C)
theorem ok__law_is_form (Z : Glo K mg C) (omul : Opr P w K mg base C .Mult 6 (fun w => Fits w.1 w.2) (· * ·)) (osub : Opr P w K mg base C .Sub 6 (fun w => Fits w.1 w.2) (· - ·)) (psign : PropK P w K mg base C "sign" 1 (sp_Rsign C)) {f : Addr} {fd : FuncData} (Fd : FnP K "_law_is_form" st__law_is_form f fd) : FnOk P w K mg base CX0 8 f fd ["table"] (sp__law_is_form C) := by
  refine fn_pr Fd sc__law_is_form (fun u => by first | rfl | (cases u <;> rfl)) (fun _ => False) (fun _ _ h => h.elim) (fun X u E hX hp hE => ?_)
  obtain ⟨cdv, A, outer, s, H, E', rfl, hr⟩ := hX
  refine PSs.nox ?_
  have nd := (sc__law_is_form).nd
  replace hr : Room 7 (cxOf CX0 P w K mg base N__law_is_form "_law_is_form" (defScope st__law_is_form) f cdv A outer s H E').nox.A := hr
  rename List (List Rat) => M
  have hp : LawF M := hp
  have hn := hp.n
  have hl0 : 0 < M.length := by omega
  have hl1 : 1 < M.length := by omega
  have r0 := hp.sq _ (get_mem hl0)
  have r1 := hp.sq _ (get_mem hl1)
  have ix : ∀ {X : Cx} {E : En} {G : List Sl} {i j : Nat} {p1 p2 p3 p4 : Pos} {k1 k2 : Nat}, True := trivial
  refine js_seq (G1 := G0 [IsQM C M] 1) (js_if (b1 := false) (PW.pt (jw_or (b1 := false) (b2 := false) (jt_eq (jt_cmp (pt_cmpR op_lt (jprop psign (hr.mono (by decide)) (M[0]!)[0]! (je_op (pe_ix ix_list (je_op (pe_ix ix_list (jv 0 (R := IsQM C M)) jI (fun _ _ => rfl)) (rop_ixB (j := 0) hl0)) jI (fun _ _ => rfl)) (rop_ixB (j := 0) (by omega))) rfl trivial rfl) jI (nomark _)) rop_lt) (by rw [q_sgn_neg]; exact decide_eq_false (by have := hp.a; grind))) fun _ => jw_or1 (jt_eq (jt_cmp (pt_cmpR op_lt (jprop psign (hr.mono (by decide)) (M[1]!)[1]! (je_op (pe_ix ix_list (je_op (pe_ix ix_list (jv 0 (R := IsQM C M)) jI (fun _ _ => rfl)) (rop_ixB (j := 1) hl1)) jI (fun _ _ => rfl)) (rop_ixB (j := 1) (by omega))) rfl trivial rfl) jI (nomark _)) rop_lt) (by rw [q_sgn_neg]; exact decide_eq_false (by have := hp.d; grind))))) (fun h => nomatch h) (fun _ => js_nil rfl)) ?_
  refine js_one (js_ret (je_eq (je_or (b1 := decide ((M.length : Int) = 2)) (b2 := true) (je_op (pe_cmpR op_eq (jbB call_len Z.len boot_len (ja_cons (jv 0 (R := IsQM C M)) ja_nil) rc_len) jI (nomark _)) rop_eqI) fun _ => pe_one (je_eq (je_op (pe_cmpR op_ge (jprop psign (hr.mono (by decide)) ((M[0]!)[0]! * (M[1]!)[1]! - (M[0]!)[1]! * (M[1]!)[0]!) (joQ osub (hr.mono (by decide)) (joQ omul (hr.mono (by decide)) (je_op (pe_ix ix_list (je_op (pe_ix ix_list (jv 0 (R := IsQM C M)) jI (fun _ _ => rfl)) (rop_ixB (j := 0) hl0)) jI (fun _ _ => rfl)) (rop_ixB (j := 0) (by omega))) (je_op (pe_ix ix_list (je_op (pe_ix ix_list (jv 0 (R := IsQM C M)) jI (fun _ _ => rfl)) (rop_ixB (j := 1) hl1)) jI (fun _ _ => rfl)) (rop_ixB (j := 1) (by omega))) hp.f1) (joQ omul (hr.mono (by decide)) (je_op (pe_ix ix_list (je_op (pe_ix ix_list (jv 0 (R := IsQM C M)) jI (fun _ _ => rfl)) (rop_ixB (j := 0) hl0)) jI (fun _ _ => rfl)) (rop_ixB (j := 1) (by omega))) (je_op (pe_ix ix_list (je_op (pe_ix ix_list (jv 0 (R := IsQM C M)) jI (fun _ _ => rfl)) (rop_ixB (j := 1) hl1)) jI (fun _ _ => rfl)) (rop_ixB (j := 0) (by omega))) hp.f2) hp.f3) rfl trivial rfl) jI (nomark _)) rop_ge) (by rw [q_sgn_nn, decide_eq_true hp.m]))) (by rw [Bool.or_true])))
abbrev sp__law_right (_ : Addr) : Sp := PrP (ι := Unit) (fun _ => []) (fun _ => True) (fun _ => IsB true)
abbrev Kn__law_right (P : Program) (w : World) (K : PySem.W.Frag) (mg : Str → Option Value) (base : Heap) (C : Addr) : Prop := Kn P w K mg base "_law_right" 15 ["pot"] (sp__law_right C)
theorem ok__law_right (Z : Glo K mg C) (MM : MathQ) (mk : Mkr P w K mg base C 2) (osub : Opr P w K mg base C .Sub 6 (fun w => Fits w.1 w.2) (· - ·)) (oeq : EqK P w K mg base C 1) (psign : PropK P w K mg base C "sign" 1 (sp_Rsign C)) (matmost : MethK P w K mg base C "is_at_most" 6 ["self", "other"] (sp_Ris_at_most C)) (k__law_draw : Kn__law_draw P w K mg base C) (k__law_pick : Kn__law_pick P w K mg base C) (k__law_proposal : Kn__law_proposal P w K mg base C) (k__law_weights : Kn__law_weights P w K mg base C) (k__law_two : Kn__law_two P w K mg base C) (k__law_is_joined : Kn__law_is_joined P w K mg base C) (k__law_handed : Kn__law_handed P w K mg base C) (k_is_less_spread : Kn_is_less_spread P w K mg base C) (k_guessed_table : Kn_guessed_table P w K mg base C) (kwg : KnK P w K mg base "guessed_table" 10 ["proposal", "weights", "guesses"] (sp_guessed_table C) 1 ["guesses", "weights"] (fun vs ws => vs ++ [ws.getD 1 .non, ws.getD 0 .non])) (k__law_is_form : Kn__law_is_form P w K mg base C) (k_is_never_below : Kn_is_never_below P w K mg base C) (k_worth : Kn_worth P w K mg base C) (kww : KnK P w K mg base "worth" 11 ["form", "row"] (sp_worth C) 0 ["form", "row"] (fun vs ws => vs ++ ws)) {f : Addr} {fd : FuncData} (Fd : FnP K "_law_right" st__law_right f fd) : FnOk P w K mg base CX0 15 f fd ["pot"] (sp__law_right C) := by
  refine fn_prP Fd sc__law_right (fun u => by first | rfl | (cases u <;> rfl)) (by decide) (fun X u E hX hp => ?_)
  obtain ⟨cdv, A, outer, s, H, E', rfl, hr⟩ := hX
  refine PSs.nox ?_
  have nd := (sc__law_right).nd
  replace hr : Room 14 (cxOf CX0 P w K mg base N__law_right "_law_right" (defScope st__law_right) f cdv A outer s H E').nox.A := hr
  refine js_seq (js_par3FMM (i := 1) (j := 2) (l := 3) (Ra := Som (fun n : Nat => n = 2 ∨ n = 3) IsU) (Rm := LsOf (IsGQ C) (nearQ [])) (Rl := LsOf (IsGQ C) (farQ [])) (by decide) (by decide) (by decide) (ps_par3 (i := 1) (j := 2) (l := 3) rfl nd rfl rfl rfl (by decide) (by decide) (by decide) rfl rfl rfl (pa_cons (je_conv (R := PickK [IsI 2, IsI 2, IsI 3]) (jcP k__law_pick (hr.mono (by decide)) ⟨0, rfl⟩ (true, [IsI 2, IsI 2, IsI 3]) (ja_pot (pv 0) rfl (ja_cons (je_m (jm_lst (pe_lst (ja_cons jI (ja_cons jI (ja_cons jI ja_nil)))))) ja_nil)) ⟨by show 0 < 3; decide, by show 3 < 1000; decide, fun R hR => ?_⟩) (fun v F ⟨R, hR, h⟩ => ?_)) (pa_cons (jm_ls (R := IsGQ C) [] (jm_lst (pe_lst ja_nil))) (pa_cons (jm_ls (R := IsGQ C) [] (jm_lst (pe_lst ja_nil))) pa_nil))) rfl)) ?_
  · simp only [List.mem_cons, List.not_mem_nil, or_false] at hR
    rcases hR with rfl | rfl | rfl <;> exact mo_I
  · simp only [List.mem_cons, List.not_mem_nil, or_false] at hR
    rcases hR with rfl | rfl | rfl
    · exact ⟨2, .inl rfl, h⟩
    · exact ⟨2, .inl rfl, h⟩
    · exact ⟨3, .inr rfl, h⟩
  refine js_open (i := 1) (P := fun n : Nat => n = 2 ∨ n = 3) (R := IsU) rfl (fun _ _ _ _ h _ => h) (fun n hn => ?_)
  have hn3 : n ≤ 3 := by omega
  refine js_seq (js_parMF (i := 4) (j := 5) (Rm := SomM (fun A : List (List Nat) => A.length = n ∧ ∀ r ∈ A, DrR n r) (fun A => LsOf (IsL (IsQ C)) (A.map rowQ))) (Rb := Som (fun ws : List Nat => ws.length = n ∧ ∀ x ∈ ws, 1 ≤ x ∧ x ≤ 4) (fun ws => IsL IsU ws)) (by decide) (ps_par (i := 4) (j := 5) rfl nd rfl rfl (by decide) rfl rfl (pa_cons (jcPM k__law_proposal (hr.mono (by decide)) ⟨0, rfl⟩ n (ja_pot (pv 0) rfl (ja_cons (jv 1 (R := IsU n)) ja_nil)) ⟨by omega, by omega⟩) (pa_cons (jcP k__law_weights (hr.mono (by decide)) ⟨0, rfl⟩ n (ja_pot (pv 0) rfl (ja_cons (jv 1 (R := IsU n)) ja_nil)) (by show n ≤ 10; omega)) pa_nil)) rfl)) ?_
  refine js_openM (i := 4) rfl (fun x vs F F' h e => LsOf.up h F' e) (fun A hA => ?_)
  refine js_open (i := 5) (P := fun ws : List Nat => ws.length = n ∧ ∀ x ∈ ws, 1 ≤ x ∧ x ≤ 4) (R := fun ws => IsL IsU ws) rfl (fun x v F F' h e => LstOf.up h F' e) (fun ws hw => ?_)
  have hA0 : Good0 n (A.map rowQ) := ⟨by rw [List.length_map, hA.1], fun r hr' => by
    obtain ⟨xs, hx, rfl⟩ := List.mem_map.mp hr'
    exact MM.row n xs hn3 (hA.2 xs hx)⟩
  generalize A.map rowQ = B0 at hA0
  refine js_frz (i := 4) rfl ?_
  refine js_cons (N1 := fun G => ∃ ps s6 s7 s8, ps.length = n ∧ (∀ p ∈ ps, p ∈ rwPs) ∧ G = [.pot, .fz (IsU n), .mt (LsOf (IsGQ C) (nearQ ps)), .mt (LsOf (IsGQ C) (farQ ps)), .fz (IsQM C B0), .fz (IsL IsU ws), s6, s7, s8, .un, .un, .un, .un, .un, .un, .un, .un]) (js_for PassesOwn.never rfl (ji_rangeN (n := n) (by omega) (pi_range1 rfl Z.range (ja_cons (jv 1 (R := IsU n)) ja_nil))) (fun x => jg1 6 nd) (fun i G => ∃ ps s6 s7 s8, ps.length = i ∧ (∀ p ∈ ps, p ∈ rwPs) ∧ G = [.pot, .fz (IsU n), .mt (LsOf (IsGQ C) (nearQ ps)), .mt (LsOf (IsGQ C) (farQ ps)), .fz (IsQM C B0), .fz (IsL IsU ws), s6, s7, s8, .un, .un, .un, .un, .un, .un, .un, .un]) ⟨[], _, _, _, rfl, fun p h => by simp at h, rfl⟩ ?_ (fun G1 h => by rwa [List.length_range] at h)) ?_
  · rintro i p G1 hi ⟨ps, s6, s7, s8, hps, hpm, rfl⟩
    have hin : i < n := by have := (List.getElem?_eq_some_iff.mp hi).1; simpa using this
    refine js_cons (js_asgSom (i := 7) (j := 8) (P := fun g : RwG × RwG => g ∈ rwPs) (R1 := fun g => IsRw C g.1) (R2 := fun g => IsRw C g.2) (ps_asg (jcP k__law_two (hr.mono (by decide)) ⟨0, rfl⟩ () (ja_pot (pv 0) rfl ja_nil) trivial) (pg_tup rfl (pgs_cons (gN 7 nd) (pgs_cons (gN 8 nd) pgs_nil))))) ?_
    rintro _ ⟨g, hg, rfl⟩
    have hgl : g.1.length ≤ 10 ∧ g.2.length ≤ 10 := by
      have : ∀ g ∈ rwPs, g.1.length ≤ 10 ∧ g.2.length ≤ 10 := by decide +kernel
      exact this g hg
    have hnl : (nearQ ps).length = i := by simp [nearQ, gQ, hps]
    have hfl : (farQ ps).length = i := by simp [farQ, gQ, hps]
    have en : nearQ (ps ++ [g]) = nearQ ps ++ [g.1.map handed] := by simp [nearQ, gQ]
    have ef : farQ (ps ++ [g]) = farQ ps ++ [g.2.map handed] := by simp [farQ, gQ]
    refine js_seq (js_append (i := 2) (R := IsGQ C (g.1.map handed)) (Rm' := LsOf (IsGQ C) (nearQ (ps ++ [g]))) (ps_expr (pe_bm PySem.F.plainAttrs_list PySem.F.slot_list_append PySem.F.type_list_append mt_append (pv 2) (pa_cons (jc k__law_handed (hr.mono (by decide)) g.1 (ja_cons (jv 7 (R := IsRw C g.1)) ja_nil) hgl.1) pa_nil))) rfl (fun vs v F a b => by rw [en]; exact (a.here.snoc b).up) (fun vs F a => by rw [← a.len, hnl]; exact line_of (m := 1000) (by omega))) ?_
    refine js_one (js_N (js_append (i := 3) (R := IsGQ C (g.2.map handed)) (Rm' := LsOf (IsGQ C) (farQ (ps ++ [g]))) (ps_expr (pe_bm PySem.F.plainAttrs_list PySem.F.slot_list_append PySem.F.type_list_append mt_append (pv 3) (pa_cons (jc k__law_handed (hr.mono (by decide)) g.2 (ja_cons (jv 8 (R := IsRw C g.2)) ja_nil) hgl.2) pa_nil))) rfl (fun vs v F a b => by rw [ef]; exact (a.here.snoc b).up) (fun vs F a => by rw [← a.len, hfl]; exact line_of (m := 1000) (by omega))) ?_)
    rintro G' rfl
    refine ⟨ps ++ [g], _, _, _, by rw [List.length_append, hps]; rfl, fun q hq => ?_, rfl⟩
    rcases List.mem_append.mp hq with z | z
    · exact hpm q z
    · have : q = g := by simpa using z
      rw [this]; exact hg
  rintro _ ⟨ps, s6, s7, s8, hps, hpm, rfl⟩
  refine js_frz (i := 2) rfl ?_
  refine js_frz (i := 3) rfl ?_
  have hfr : ∀ (α : Type) (x : α), (List.replicate n [x]).flatten = List.replicate n x := fun α x => by
    generalize n = m
    induction m with
    | zero => rfl
    | succ m ih => rw [List.replicate_succ, List.flatten_cons, ih]; rfl
  refine js_cons (N1 := fun G => ∃ B, Good0 n B ∧ Conn2 B ∧ G = [.pot, .fz (IsU n), .fz (IsL (IsGQ C) (nearQ ps)), .fz (IsL (IsGQ C) (farQ ps)), .fz (IsQM C B), .fz (IsL IsU ws), s6, s7, s8, .un, .un, .un, .un, .un, .un, .un, .un]) (js_ifS (jts_not (jts_val (Pb := fun b => b = true → Conn2 B0) (pt_val (jc k__law_is_joined (hr.mono (by decide)) B0 (ja_cons (jv 4 (R := IsQM C B0)) ja_nil) ⟨by rw [hA0.l]; omega, by rw [hA0.l]; omega, fun r hr' => by rw [(hA0.r r hr').l, hA0.l]⟩)))) (fun _ => ?_) (fun h => js_nil ⟨B0, hA0, h rfl, rfl⟩)) ?_
  · refine js_one (js_N (js_set (R := IsQM C (uniB n)) (ps_set (i := 4) nd rfl (.inl rfl) (je_eq (je_m (jm_op (pe_op op_rep (je_m (jm_ls (R := IsL (IsQ C)) [(List.replicate n [Rat.divInt 1 (n : Int)]).flatten] (jm_lst (pe_lst (ja_cons (je_m (jm_op (pe_op op_rep (je_m (jm_ls (R := IsQ C) [Rat.divInt 1 (n : Int)] (jm_lst (pe_lst (ja_cons (jmk2 mk (hr.mono (by decide)) (ja_cons jI (ja_cons (jv 1 (R := IsU n)) ja_nil)) ⟨by omega, ?_⟩) ja_nil))))) (jv 1 (R := IsU n))) (rop_rep (n := n) ?_ ?_))) ja_nil))))) (jv 1 (R := IsU n))) (rop_rep (n := n) ?_ ?_))) ?_))) ?_)
    · rw [Int.natAbs_natCast]
      exact log2_lt (n := 9000) (by decide) (Nat.lt_of_le_of_lt hn3 (Nat.lt_of_lt_of_le (by decide : (3 : Nat) < 2 ^ 5) (Nat.pow_le_pow_right (by decide) (by decide))))
    · show 1 * n ≤ 100000
      omega
    · omega
    · show 1 * n ≤ 100000
      omega
    · omega
    · rw [hfr, hfr]
      rfl
    · rintro G' rfl
      obtain ⟨h1, h2⟩ := MM.uni n hn
      exact ⟨_, h1, h2, rfl⟩
  rintro _ ⟨B, hB, hBc, rfl⟩
  have hC : Case4 n B ws ps := ⟨hn, hB, hBc, hw.1, hw.2, hps, hpm⟩
  obtain ⟨hg1, hg2⟩ := MM.g n B ws ps hC
  have hL := MM.m n B ws ps hC
  have hZ := MM.z n B ws ps hC
  have hnl : (nearQ ps).length = n := by simp [nearQ, gQ, hps]
  have hfl : (farQ ps).length = n := by simp [farQ, gQ, hps]
  have hzip : ∀ q ∈ (nearQ ps).zip (farQ ps), GuessP q.1 ∧ GuessP q.2 ∧ ∀ p ∈ q.2, ¬ aboveR q.2 p.2 < aboveR q.1 p.2 := fun q hq => by
    have : (nearQ ps).zip (farQ ps) = ps.map fun p => (p.1.map handed, p.2.map handed) := by
      unfold nearQ farQ gQ
      rw [List.map_map, List.map_map, List.zip_map']
      rfl
    rw [this] at hq
    obtain ⟨p, hp', rfl⟩ := List.mem_map.mp hq
    exact MM.hi p (hpm p hp')
  refine js_seq (G1 := [.pot, .fz (IsU n), .fz (IsL (IsGQ C) (nearQ ps)), .fz (IsL (IsGQ C) (farQ ps)), .fz (IsQM C B), .fz (IsL IsU ws), s6, s7, s8, .un, .un, .un, .un, .un, .un, .un, .un]) (js_if (b1 := false) (jt_eq (jt_cmp (pt_cmpR (op_neD hr.units) (je_eq (R' := IsL IsI []) (je_m (jm_lc (own := [("one", 7), ("other", 8)]) (Ry := IsI) (fun _ : List (Rat × Rat) × List (Rat × Rat) => false) (fun _ => (1 : Int)) rfl nd (ji_zip (Rx := IsGQ C) (Ry := IsGQ C) (xs := nearQ ps) (ys := farQ ps) (pi_zip rfl Z.zip (ja_cons (jv 2) (ja_cons (jv 3) ja_nil)))) (blkOk_by (by kernel_rfl)) (by decide) (fun s H C' cl fp q => jg2 7 8 nd) (fun s H C' cl fp q hx => jts_one (jt_eq (jt_cmp (pt_cmpR op_notBl (jc k_is_less_spread (hr.mono (by decide)) q (ja_cons (je_conv (jv 7 (R := IsGQ C q.1)) gq_sg) (ja_cons (je_conv (jv 8 (R := IsGQ C q.2)) gq_sg) ja_nil)) (hzip q hx)) jBl (nomark _)) rop_notB) rfl)) (fun s H C' cl fp q hx h => nomatch h) (line_of (m := 1000) (by rw [List.length_zip]; omega)))) (congrArg (IsL IsI) (flt0 _ _))) (je_m (jm_ls (R := IsI) [] (jm_lst (pe_lst ja_nil)))) (nomark _)) rop_neNil) rfl) (fun h => nomatch h) (fun _ => js_nil rfl)) ?_
  generalize hS : guessedR B (wQ ws) (nearQ ps) = S at *
  generalize hW : guessedR B (wQ ws) (farQ ps) = W at *
  refine js_seq (js_par (i := 9) (j := 10) (Ra := IsQM C S) (Rb := IsQM C W) (ps_par (i := 9) (j := 10) rfl nd rfl rfl (by decide) rfl rfl (pa_cons (je_eq (jc k_guessed_table (hr.mono (by decide)) (B, wQ ws, nearQ ps) (ja_cons (je_conv (jv 4 (R := IsQM C B)) qm_snm) (ja_cons (je_conv (jv 5 (R := IsL IsU ws)) ul_sn) (ja_cons (je_conv (jv 2 (R := IsL (IsGQ C) (nearQ ps))) gl_sg) ja_nil))) hg1 rfl) (by rw [← hS])) (pa_cons (je_eq (jcK kwg (hr.mono (by decide)) (B, wQ ws, farQ ps) (R1 := [IsSNM C B]) (R2 := [IsSq (IsSG C) (farQ ps), IsSN C (wQ ws)]) (ja_cons (je_conv (jv 4 (R := IsQM C B)) qm_snm) ja_nil) (jk_cons (je_conv (jbT call_tuple_of Z.tuple boot_tuple (ja_cons (jv 3 (R := IsL (IsGQ C) (farQ ps))) ja_nil) rc_tuple) (fun v F h => .inr (tup_to (fun vs F q => ls_imp q fun x v F r => gq_sg v F r) v F h))) (jk_cons (je_conv (jbT call_tuple_of Z.tuple boot_tuple (ja_cons (jv 5 (R := IsL IsU ws)) ja_nil) rc_tuple) (fun v F h => .inr (tup_to (fun vs F q => ls_map q fun x v F r => .inr ⟨(x : Int), rfl, r⟩) v F h))) jk_nil)) rfl rfl (fun vs ws F a b => args4 a b) hg2 rfl) (by rw [← hW])) pa_nil)) rfl)) ?_
  refine js_seq (jslc (i := 11) (Ry := IsL (IsQ C)) (fun p : List Rat × List Rat => (p.1.zip p.2).map fun q => q.2 - q.1) [("left", 13), ("right", 14)] nd (ji_zip (Rx := IsL (IsQ C)) (Ry := IsL (IsQ C)) (xs := S) (ys := W) (pi_zip rfl Z.zip (ja_cons (jv 9) (ja_cons (jv 10) ja_nil)))) (fun s H C' cl fp x => jg2 13 14 nd) (fun s H C' cl fp p hx => je_m (jlc (Ry := IsQ C) (fun q : Rat × Rat => q.2 - q.1) [("one", 7), ("two", 16)] nd (ji_zip (Rx := IsQ C) (Ry := IsQ C) (xs := p.1) (ys := p.2) (pi_zip rfl Z.zip (ja_cons (jv 13 (R := IsL (IsQ C) p.1)) (ja_cons (jv 14 (R := IsL (IsQ C) p.2)) ja_nil)))) (fun s H C' cl fp x => jg2 7 16 nd) (fun s H C' cl fp q hq => joQ (q := q.2) (r := q.1) osub (hr.mono (by decide)) (jv 16 (R := IsQ C q.2)) (jv 7 (R := IsQ C q.1)) (hL.f p hx q hq)) (line_of (m := 1000) (by rw [List.length_zip, hL.sr _ (List.of_mem_zip hx).1]; omega)))) (line_of (m := 1000) (by rw [List.length_zip, hL.sl]; omega))) ?_
  refine js_frz (i := 11) rfl ?_
  have hlr : (S.zip W).map (fun p : List Rat × List Rat => (p.1.zip p.2).map fun q => q.2 - q.1) = lessR S W := rfl
  rw [hlr]
  have hll := hL.l1.n
  refine js_seq (G1 := [.pot, .fz (IsU n), .fz (IsL (IsGQ C) (nearQ ps)), .fz (IsL (IsGQ C) (farQ ps)), .fz (IsQM C B), .fz (IsL IsU ws), s6, s7, s8, .fz (IsQM C S), .fz (IsQM C W), .fz (IsQM C (lessR S W)), .un, .un, .un, .un, .un]) (js_if (b1 := false) (jt_eq (PW.pt (jw_and (b1 := decide (nearQ ps = farQ ps)) (b2 := false) (jt_eqGG oeq (hr.mono (by decide)) (jv 2) (jv 3)) fun h => jw_and1 (jt_eq (jt_cmp (pt_cmpR (op_neD hr.units) (je_eq (R' := IsL IsI []) (je_m (jm_lc (own := [("row", 15)]) (Ry := IsI) (fun _ : List Rat => false) (fun _ => (1 : Int)) rfl nd (ji_list (Rx := IsL (IsQ C)) (xs := lessR S W) (pi_list (jv 11))) (blkOk_by (by kernel_rfl)) (by decide) (fun s H C' cl fp q => jg1 15 nd) (fun s H C' cl fp r hx => jts_one (jt_eq (jt_cmp (pt_cmpR (op_neD hr.units) (je_conv (je_eq (R' := IsL (IsQ C) []) (je_m (jm_lc (own := [("one", 7)]) (Ry := IsQ C) (fun _ : Rat => false) (fun x : Rat => x) rfl nd (ji_list (Rx := IsQ C) (xs := r) (pi_list (jv 15))) (blkOk_by (by kernel_rfl)) (by decide) (fun s H C' cl fp q => jg1 7 nd) (fun s H C' cl fp x hx' => jts_one (jt_eq (jt_cmp (pt_cmpR op_ne (jprop psign (hr.mono (by decide)) x (jv 7 (R := IsQ C x)) rfl trivial rfl) jI (nomark _)) rop_neI) (by rw [q_sgn_0, hZ (of_decide_eq_true h) r hx x hx']; rfl))) (fun s H C' cl fp x hx' h => nomatch h) (line_of (m := 1000) (by have := hL.l1.sq r hx; omega)))) (congrArg (IsL (IsQ C)) (flt0 _ _))) nil_nil) (je_m (jm_ls (R := IsI) [] (jm_lst (pe_lst ja_nil)))) (nomark _)) rop_neNil) rfl)) (fun s H C' cl fp q hx h => nomatch h) (line_of (m := 1000) (by omega)))) (congrArg (IsL IsI) (flt0 _ _))) (je_m (jm_ls (R := IsI) [] (jm_lst (pe_lst ja_nil)))) (nomark _)) rop_neNil) rfl))) (by rw [Bool.and_false])) (fun h => nomatch h) (fun _ => js_nil rfl)) ?_
  refine js_seq (G1 := [.pot, .fz (IsU n), .fz (IsL (IsGQ C) (nearQ ps)), .fz (IsL (IsGQ C) (farQ ps)), .fz (IsQM C B), .fz (IsL IsU ws), s6, s7, s8, .fz (IsQM C S), .fz (IsQM C W), .fz (IsQM C (lessR S W)), .un, .un, .un, .un, .un]) (js_if (b1 := false) (jt_eq (PW.pt (jw_or (b1 := false) (b2 := false) (jt_not (b1 := true) (jt_val (pt_val (jc k__law_is_form (hr.mono (by decide)) (lessR S W) (ja_cons (jv 11) ja_nil) hL.l1)))) fun _ => jw_or (b1 := false) (b2 := false) (jt_not (b1 := true) (jt_val (pt_val (jc k__law_is_form (hr.mono (by decide)) S (ja_cons (jv 9) ja_nil) hL.l2)))) fun _ => jw_or (b1 := false) (b2 := false) (jt_not (b1 := true) (jt_val (pt_val (jc k__law_is_form (hr.mono (by decide)) W (ja_cons (jv 10) ja_nil) hL.l3)))) fun _ => jw_or1 (jt_eq (jt_cmp (pt_cmpR op_notBl (jc k_is_never_below (hr.mono (by decide)) (lessR S W) (ja_cons (jv 11) ja_nil) ⟨hL.fo, hL.pa⟩) jBl (nomark _)) rop_notB) rfl))) rfl) (fun h => nomatch h) (fun _ => js_nil rfl)) ?_
  refine js_seq (js_setM (Rm := SomM (fun xs : List Int => xs.length = 0 ∧ ∀ x ∈ xs, -3 ≤ x ∧ x ≤ 3) (LsOf IsI)) (ps_set (i := 12) nd rfl (.inl rfl) (jm_conv (jm_ls (R := IsI) [] (jm_lst (pe_lst ja_nil))) (fun vs F h => ⟨[], ⟨rfl, fun x h => by simp at h⟩, h⟩)))) ?_
  refine js_cons (N1 := fun G => ∃ s, G = [.pot, .fz (IsU n), .fz (IsL (IsGQ C) (nearQ ps)), .fz (IsL (IsGQ C) (farQ ps)), .fz (IsQM C B), .fz (IsL IsU ws), s, s7, s8, .fz (IsQM C S), .fz (IsQM C W), .fz (IsQM C (lessR S W)), .mt (SomM (fun xs : List Int => xs.length = n ∧ ∀ x ∈ xs, -3 ≤ x ∧ x ≤ 3) (LsOf IsI)), .un, .un, .un, .un]) (js_for PassesOwn.never rfl (ji_rangeN (n := n) (by omega) (pi_range1 rfl Z.range (ja_cons (jv 1 (R := IsU n)) ja_nil))) (fun x => jg1 6 nd) (fun i G => ∃ s, G = [.pot, .fz (IsU n), .fz (IsL (IsGQ C) (nearQ ps)), .fz (IsL (IsGQ C) (farQ ps)), .fz (IsQM C B), .fz (IsL IsU ws), s, s7, s8, .fz (IsQM C S), .fz (IsQM C W), .fz (IsQM C (lessR S W)), .mt (SomM (fun xs : List Int => xs.length = i ∧ ∀ x ∈ xs, -3 ≤ x ∧ x ≤ 3) (LsOf IsI)), .un, .un, .un, .un]) ⟨_, rfl⟩ ?_ (fun G1 h => by rwa [List.length_range] at h)) ?_
  · rintro i p G1 hi ⟨s, rfl⟩
    have hin : i < n := by have := (List.getElem?_eq_some_iff.mp hi).1; simpa using this
    refine js_one (js_N (js_append (i := 12) (R := Som (fun z : Int => -3 ≤ z ∧ z ≤ 3) IsI) (Rm' := SomM (fun xs : List Int => xs.length = i + 1 ∧ ∀ x ∈ xs, -3 ≤ x ∧ x ≤ 3) (LsOf IsI)) (ps_expr (pe_bm PySem.F.plainAttrs_list PySem.F.slot_list_append PySem.F.type_list_append mt_append (pv 12) (pa_cons (je_op (pe_op op_sub (jcP k__law_draw (hr.mono (by decide)) ⟨0, rfl⟩ 7 (ja_pot (pv 0) rfl (ja_cons jI ja_nil)) ⟨by decide, by decide⟩) jI) (rop_somL (P := fun d : Nat => d < 7) (Rx := IsU) (fun _ => mo_I) fun d hd => rop_to rop_sub fun v F h => ⟨(d : Int) - 3, by have : d < 7 := hd; omega, h⟩)) pa_nil))) rfl (fun vs v F a b => ?_) (fun vs F a => ?_)) ?_)
    · obtain ⟨xs, ⟨h1, h2⟩, h3⟩ := a.here
      obtain ⟨z, hz, e⟩ := b.here
      refine fun F' e' => ⟨xs ++ [z], ⟨by rw [List.length_append, h1]; rfl, fun x hx => ?_⟩, (h3.snoc (fun _ _ => e)).up F' e'⟩
      rcases List.mem_append.mp hx with q | q
      · exact h2 x q
      · have : x = z := by simpa using q
        rw [this]; exact hz
    · obtain ⟨xs, ⟨h1, h2⟩, h3⟩ := a
      rw [← h3.len, h1]
      exact line_of (m := 1000) (by omega)
    · rintro G' rfl
      exact ⟨_, rfl⟩
  rintro _ ⟨s, rfl⟩
  refine js_openM (i := 12) rfl (fun x vs F F' h e => h.up F' e) (fun xs hxs => ?_)
  refine js_frz (i := 12) rfl ?_
  obtain ⟨w1, w2, w3, w4⟩ := hL.fn xs hxs.1 hxs.2
  exact js_one (js_ret (je_eq (jmeth matmost (hr.mono (by decide)) (worthR S (intsQ xs), worthR W (intsQ xs)) (jc k_worth (hr.mono (by decide)) (S, intsQ xs) (ja_cons (jv 9) (ja_cons (je_conv (jv 12 (R := IsL IsI xs)) il_sn) ja_nil)) ⟨hL.fs, w1.l, w1.r, w1.d⟩) (ja_cons (je_conv (jcK0 kww (hr.mono (by decide)) (W, intsQ xs) (R2 := [IsQM C W, IsSN C (intsQ xs)]) (jk_cons (jv 10 (R := IsQM C W)) (jk_cons (je_conv (jv 12 (R := IsL IsI xs)) il_sn) jk_nil)) rfl (fun ws F a => a) ⟨hL.fw, w2.l, w2.r, w2.d⟩ rfl) isQ_nm) ja_nil) rfl w3) (by rw [decide_eq_true w4])))
abbrev Kn__law_pot (P : Program) (w : World) (K : PySem.W.Frag) (mg : Str → Option Value) (base : Heap) (C : Addr) : Prop := Kn P w K mg base "_law_pot" 1 ["script", "k"] (sp__law_pot K)
abbrev sp_law0 (K : PySem.W.Frag) : Sp := Pr (ι := List Int) (fun ns => [IsScr K ns]) (fun _ => True) (fun _ => IsB true)
theorem ok_law0 (Z : Glo K mg C) (k_pot : Kn__law_pot P w K mg base C) (k_right : Kn__law_right P w K mg base C) {f : Addr} {fd : FuncData} (Fd : FnP K "law" st_law f fd) : FnOk P w K mg base CX0 16 f fd ["script"] (sp_law0 K) := by
  refine fn_pr Fd sc_law (fun u => rfl) (fun _ => False) (fun _ _ h => h.elim) (fun X u E hX hp hE => ?_)
  obtain ⟨cdv, A, outer, s, H, E', rfl, hr⟩ := hX
  refine PSs.nox ?_
  rename List Int => ns
  exact js_one (js_ret (je_newpot k_right hr hE (fun vs F h => h) (jcM k_pot (hr.mono (by decide)) ns (ja_cons (jv 0 (R := IsScr K ns)) (ja_cons jI ja_nil)) trivial) (fun v F F' h => h)))
def spLaw (K : PySem.W.Frag) : Sp := fun vs H Q _ => ∃ (a : Addr) (ns : List Int), vs = [.ref a] ∧ SqL K H a (ns.map V.int) ∧ ∀ H', Q (.bl true) H'
theorem ok_law (Z : Glo K mg C) (k_pot : Kn__law_pot P w K mg base C) (k_right : Kn__law_right P w K mg base C) {f : Addr} {fd : FuncData} (Fd : FnP K "law" st_law f fd) : FnOk P w K mg base CX0 16 f fd ["script"] (spLaw K) := by
  refine (ok_law0 Z k_pot k_right Fd).imp fun vs H Q E' h => ?_
  obtain ⟨a, ns, rfl, hs, kq⟩ := h
  refine ⟨H, ns, ⟨Ex.refl H, fun _ z => nomatch z⟩, .cons (fun F' e => ⟨a, rfl, sql_ex hs e⟩) .nil, trivial, fun v F' H' g u => ?_⟩
  have e : v = .bl true := u.here
  rw [e]
  exact kq H'
end
end Gw
/-! Plain: sums over lists; flows on a graph: what is ahead is told by its goals. -/
namespace Gw
def S {α : Type} (l : List α) (f : α → Rat) : Rat := (l.map f).sum
section
variable {α β : Type} {l k : List α} {f g : α → Rat}
theorem S_nil : S ([] : List α) f = 0 := rfl
theorem S_cons {a : α} : S (a :: l) f = f a + S l f := by simp [S]
theorem S_app : S (l ++ k) f = S l f + S k f := by
  induction l with
  | nil => rw [List.nil_append, S_nil]; grind
  | cons a l ih => rw [List.cons_append, S_cons, S_cons, ih]; grind
theorem S_congr (h : ∀ a ∈ l, f a = g a) : S l f = S l g := by
  induction l with
  | nil => rfl
  | cons a l ih => rw [S_cons, S_cons, h a (by simp), ih fun b hb => h b (by simp [hb])]
theorem S_map {m : List β} {h : β → α} : S (m.map h) f = S m (fun b => f (h b)) := by
  induction m with
  | nil => rfl
  | cons a m ih => rw [List.map_cons, S_cons, S_cons, ih]
theorem S_add : S l (fun a => f a + g a) = S l f + S l g := by
  induction l with
  | nil => simp only [S_nil]; grind
  | cons a l ih => simp only [S_cons, ih]; grind
theorem S_sub : S l (fun a => f a - g a) = S l f - S l g := by
  induction l with
  | nil => simp only [S_nil]; grind
  | cons a l ih => simp only [S_cons, ih]; grind
theorem S_mul {c : Rat} : S l (fun a => c * f a) = c * S l f := by
  induction l with
  | nil => simp only [S_nil]; grind
  | cons a l ih => simp only [S_cons, ih]; grind
theorem S_mulr {c : Rat} : S l (fun a => f a * c) = S l f * c := by
  induction l with
  | nil => simp only [S_nil]; grind
  | cons a l ih => simp only [S_cons, ih]; grind
theorem S_zero : S l (fun _ => 0) = 0 := by
  induction l with
  | nil => rfl
  | cons a l ih => rw [S_cons, ih]; grind
theorem S_zero' (h : ∀ a ∈ l, f a = 0) : S l f = 0 := by rw [S_congr h, S_zero]
theorem S_perm (h : l.Perm k) : S l f = S k f := by
  induction h with
  | nil => rfl
  | cons x _ ih => rw [S_cons, S_cons, ih]
  | swap x y l => simp only [S_cons]; grind
  | trans _ _ a b => rw [a, b]
theorem S_swap {m : List β} {F : α → β → Rat} : S l (fun a => S m (fun b => F a b)) = S m (fun b => S l (fun a => F a b)) := by
  induction l with
  | nil => simp only [S_nil, S_zero]
  | cons a l ih => simp only [S_cons, ih, S_add]
theorem S_nonneg (h : ∀ a ∈ l, 0 ≤ f a) : 0 ≤ S l f := by
  induction l with
  | nil => rw [S_nil]; grind
  | cons a l ih =>
    rw [S_cons]
    have h1 := h a (by simp)
    have h2 := ih fun b hb => h b (by simp [hb])
    grind
theorem S_pos0 (h : ∀ a ∈ l, 0 ≤ f a) (e : S l f = 0) : ∀ a ∈ l, f a = 0 := by
  induction l with
  | nil => intro a ha; simp at ha
  | cons b l ih =>
    rw [S_cons] at e
    have h1 := h b (by simp)
    have h2 : 0 ≤ S l f := S_nonneg fun c hc => h c (by simp [hc])
    have e1 : f b = 0 := by grind
    have e2 : S l f = 0 := by grind
    intro a ha
    rcases List.mem_cons.mp ha with q | q
    · rw [q]; exact e1
    · exact ih (fun c hc => h c (by simp [hc])) e2 a q
theorem S_le {a : α} (h : ∀ a ∈ l, 0 ≤ f a) (ha : a ∈ l) : f a ≤ S l f := by
  induction l with
  | nil => simp at ha
  | cons b l ih =>
    rw [S_cons]
    have h1 := h b (by simp)
    have h2 : 0 ≤ S l f := S_nonneg fun c hc => h c (by simp [hc])
    rcases List.mem_cons.mp ha with q | q
    · rw [q]; grind
    · have := ih (fun c hc => h c (by simp [hc])) q
      grind
end
theorem S_one {n i : Nat} {c : Nat → Rat} (hi : i < n) (h : ∀ j, j < n → j ≠ i → c j = 0) : S (List.range n) c = c i := by
  induction n with
  | zero => omega
  | succ n ih =>
    rw [List.range_succ, S_app, S_cons, S_nil]
    by_cases e : i = n
    · subst e
      rw [S_zero' fun j hj => h j (by have := List.mem_range.mp hj; omega) (by have := List.mem_range.mp hj; omega)]
      grind
    · rw [ih (by omega) fun j hj hji => h j (by omega) hji, h n (by omega) (fun q => e q.symm)]
      grind
theorem foldl_addS (xs : List Rat) (a : Rat) : xs.foldl (· + ·) a = a + S xs (fun x => x) := by
  induction xs generalizing a with
  | nil => rw [List.foldl_nil, S_nil]; grind
  | cons x xs ih => rw [List.foldl_cons, ih, S_cons]; grind
theorem sumR_S (xs : List Rat) : sumR xs = S xs (fun x => x) := by
  unfold sumR
  rw [foldl_addS]
  grind
theorem S_range {α : Type} [Inhabited α] (xs : List α) (f : α → Rat) : S xs f = S (List.range xs.length) (fun i => f xs[i]!) := by
  have e : xs = (List.range xs.length).map fun i => xs[i]! := by
    apply List.ext_getElem
    · simp
    · intro i h1 h2
      simp [h1]
  conv => lhs; rw [e]
  rw [S_map]
/-! ### symmetric flows -/
section
variable {m : Nat} {F : Nat → Nat → Rat}
/-- what flows out of i, less what flows in, x being the heights -/
def lap (m : Nat) (F : Nat → Nat → Rat) (x : Nat → Rat) (i : Nat) : Rat := S (List.range m) fun j => F i j * (x i - x j)
theorem lap_sym (h : ∀ i j, i < m → j < m → F i j = F j i) (x y : Nat → Rat) : S (List.range m) (fun i => lap m F y i * x i) = S (List.range m) (fun i => y i * lap m F x i) := by
  have e1 : S (List.range m) (fun i => lap m F y i * x i) = S (List.range m) (fun i => S (List.range m) fun j => F i j * y i * x i) - S (List.range m) (fun i => S (List.range m) fun j => F i j * y j * x i) := by
    rw [← S_sub]
    refine S_congr fun i hi => ?_
    unfold lap
    rw [← S_mulr, ← S_sub]
    exact S_congr fun j hj => by grind
  have e2 : S (List.range m) (fun i => y i * lap m F x i) = S (List.range m) (fun i => S (List.range m) fun j => F i j * y i * x i) - S (List.range m) (fun i => S (List.range m) fun j => F i j * y i * x j) := by
    rw [← S_sub]
    refine S_congr fun i hi => ?_
    unfold lap
    rw [← S_mul, ← S_sub]
    exact S_congr fun j hj => by grind
  rw [e1, e2]
  congr 1
  rw [S_swap]
  refine S_congr fun i hi => S_congr fun j hj => ?_
  rw [h j i (List.mem_range.mp hj) (List.mem_range.mp hi)]
theorem lap_energy (h : ∀ i j, i < m → j < m → F i j = F j i) (x : Nat → Rat) : 2 * S (List.range m) (fun i => x i * lap m F x i) = S (List.range m) (fun i => S (List.range m) fun j => F i j * ((x i - x j) * (x i - x j))) := by
  have e1 : S (List.range m) (fun i => x i * lap m F x i) = S (List.range m) (fun i => S (List.range m) fun j => F i j * (x i * (x i - x j))) := by
    refine S_congr fun i hi => ?_
    unfold lap
    rw [← S_mul]
    exact S_congr fun j hj => by grind
  have e2 : S (List.range m) (fun i => x i * lap m F x i) = S (List.range m) (fun i => S (List.range m) fun j => F i j * (x j * (x j - x i))) := by
    rw [e1, S_swap]
    refine S_congr fun i hi => S_congr fun j hj => ?_
    rw [h j i (List.mem_range.mp hj) (List.mem_range.mp hi)]
  have e3 : 2 * S (List.range m) (fun i => x i * lap m F x i) = S (List.range m) (fun i => S (List.range m) fun j => F i j * (x i * (x i - x j))) + S (List.range m) (fun i => S (List.range m) fun j => F i j * (x j * (x j - x i))) := by
    rw [← e1, ← e2]; grind
  rw [e3, ← S_add]
  refine S_congr fun i hi => ?_
  rw [← S_add]
  exact S_congr fun j hj => by grind
/-- in a graph that hangs together only what is level flows nowhere -/
theorem lap_const (h : ∀ i j, i < m → j < m → F i j = F j i) (hn : ∀ i j, i < m → j < m → 0 ≤ F i j) (c : ∀ T : Nat → Prop, T 0 → (∀ i j, T i → i < m → j < m → 0 < F i j → T j) → ∀ i, i < m → T i) {x : Nat → Rat} (hx : ∀ i, i < m → lap m F x i = 0) : ∀ i, i < m → x i = x 0 := by
  have e := lap_energy h x
  rw [S_zero' (f := fun i => x i * lap m F x i) fun i hi => by rw [hx i (List.mem_range.mp hi)]; grind] at e
  have sq : ∀ z : Rat, 0 ≤ z * z := fun z => by
    rcases Rat.le_total (a := 0) (b := z) with q | q
    · exact Rat.mul_nonneg q q
    · have : 0 ≤ -z := by grind
      have := Rat.mul_nonneg this this
      grind
  have p1 : ∀ i ∈ List.range m, 0 ≤ S (List.range m) fun j => F i j * ((x i - x j) * (x i - x j)) := fun i hi => S_nonneg fun j hj => Rat.mul_nonneg (hn i j (List.mem_range.mp hi) (List.mem_range.mp hj)) (sq _)
  have p2 := S_pos0 p1 (by rw [← e]; grind)
  refine c (fun i => x i = x 0) rfl fun i j hi him hjm hf => ?_
  have p3 := S_pos0 (f := fun j => F i j * ((x i - x j) * (x i - x j))) (fun j hj => Rat.mul_nonneg (hn i j him (List.mem_range.mp hj)) (sq _)) (p2 i (List.mem_range.mpr him)) j (List.mem_range.mpr hjm)
  have p4 : (x i - x j) * (x i - x j) = 0 := by
    have p5 : F i j * ((x i - x j) * (x i - x j)) = 0 := p3
    rcases Rat.mul_eq_zero.mp p5 with q | q
    · rw [q] at hf; exact absurd hf (Rat.lt_irrefl)
    · exact q
  have p6 : x i - x j = 0 := by
    rcases Rat.mul_eq_zero.mp p4 with q | q <;> exact q
  have : x i = x 0 := hi
  grind
/-- the sum of what is ahead times goals hangs on the goals alone -/
theorem lap_uniq (h : ∀ i j, i < m → j < m → F i j = F j i) {g k : Nat → Rat} {x x' y : Nat → Rat} (hx : ∀ i, i < m → lap m F x i = g i) (hx' : ∀ i, i < m → lap m F x' i = g i) (hy : ∀ i, i < m → lap m F y i = k i) : S (List.range m) (fun i => k i * x i) = S (List.range m) (fun i => k i * x' i) := by
  have e : ∀ z : Nat → Rat, (∀ i, i < m → lap m F z i = g i) → S (List.range m) (fun i => k i * z i) = S (List.range m) (fun i => y i * g i) := fun z hz => by
    have e1 := lap_sym h z y
    rw [← S_congr (f := fun i => lap m F y i * z i) (g := fun i => k i * z i) fun i hi => by rw [hy i (List.mem_range.mp hi)], e1]
    exact S_congr fun i hi => by rw [hz i (List.mem_range.mp hi)]
  rw [e x hx, e x' hx']
end
end Gw
/-! Plain: what the steps of INTEGER rows keep. -/
namespace Gw
def vv (r : List Int) (j : Nat) : Rat := ((r[j]! : Int) : Rat)
theorem vv_zero {r : List Int} {j : Nat} : vv r j = 0 ↔ r[j]! = 0 := by
  unfold vv
  exact Rat.intCast_eq_zero_iff
theorem vv_out {r : List Int} {j : Nat} (h : r.length ≤ j) : vv r j = 0 := by
  rw [vv_zero, getElem!_neg r j (by omega)]
  rfl
theorem vv_map {r : List Int} {f : Int → Int} (h0 : f 0 = 0) (j : Nat) : (r.map f)[j]! = f r[j]! := by
  by_cases h : j < r.length
  · rw [getElem!_pos _ j (by simpa using h), getElem!_pos _ j h, List.getElem_map]
  · rw [getElem!_neg _ j (by simpa using h), getElem!_neg _ j h]
    exact h0.symm
/-- the first place -/
theorem headOf_at {r : List Int} (h : headOf r < r.length) : vv r (headOf r) ≠ 0 ∧ ∀ j, j < headOf r → vv r j = 0 := by
  unfold headOf at h ⊢
  constructor
  · rw [Ne, vv_zero, getElem!_pos r _ h]
    have := List.findIdx_getElem (w := h)
    simpa using this
  · intro j hj
    rw [vv_zero, getElem!_pos r j (by omega)]
    have := List.not_of_lt_findIdx hj
    simpa using this
theorem vv_lt {r : List Int} {p : Nat} (h : vv r p ≠ 0) : p < r.length := by
  rcases Nat.lt_or_ge p r.length with q | q
  · exact q
  · exact absurd (vv_out q) h
theorem headOf_eq {r : List Int} {p : Nat} (h : vv r p ≠ 0) (h0 : ∀ j, j < p → vv r j = 0) : headOf r = p := by
  have hp := vv_lt h
  have hl : headOf r < r.length := by
    unfold headOf
    rw [List.findIdx_lt_length]
    refine ⟨r[p], List.getElem_mem hp, ?_⟩
    rw [Ne, vv_zero, getElem!_pos r p hp] at h
    simpa using h
  obtain ⟨a, b⟩ := headOf_at hl
  rcases Nat.lt_trichotomy (headOf r) p with q | q | q
  · exact absurd (h0 _ q) a
  · exact q
  · exact absurd (b _ q) h
/-! ### bare, headed, cleared rows -/
theorem gcdL_dvd {row : List Int} : ∀ x ∈ row, ((gcdL row : Nat) : Int) ∣ x := by
  have all : ∀ (row : List Int) (c : Nat), (row.foldl (fun c n => if n = 0 then c else Nat.gcd c n.natAbs) c) ∣ c ∧ ∀ x ∈ row, (row.foldl (fun c n => if n = 0 then c else Nat.gcd c n.natAbs) c) ∣ x.natAbs := by
    intro row
    induction row with
    | nil => intro c; exact ⟨Nat.dvd_refl c, fun x hx => by simp at hx⟩
    | cons y ys ih =>
      intro c
      rw [List.foldl_cons]
      have h := ih (if y = 0 then c else Nat.gcd c y.natAbs)
      refine ⟨Nat.dvd_trans h.1 ?_, fun x hx => ?_⟩
      · split
        · exact Nat.dvd_refl c
        · exact Nat.gcd_dvd_left _ _
      · rcases List.mem_cons.mp hx with q | q
        · subst q
          refine Nat.dvd_trans h.1 ?_
          split
          · rename_i e; rw [e]; simp
          · exact Nat.gcd_dvd_right _ _
        · exact h.2 x q
  intro x hx
  rw [← Int.dvd_natAbs]
  exact Int.natCast_dvd_natCast.mpr ((all row 0).2 x hx)
theorem bareR_spec (row : List Int) : ∃ g : Rat, g ≠ 0 ∧ ∀ j, vv (bareR row) j = g * vv row j := by
  unfold bareR
  split
  · rename_i h
    generalize hG : gcdL row = G at *
    have hz : ((G : Int) : Rat) ≠ 0 := by
      rw [Ne, Rat.intCast_eq_zero_iff]; omega
    refine ⟨(((G : Int) : Rat))⁻¹, fun q => by have := Rat.inv_mul_cancel _ hz; rw [q] at this; grind, fun j => ?_⟩
    unfold vv
    rw [vv_map (by simp)]
    by_cases hj : j < row.length
    · rw [getElem!_pos row j hj]
      have hd := gcdL_dvd (row := row) row[j] (List.getElem_mem hj)
      rw [hG] at hd
      obtain ⟨c, hc⟩ := hd
      rw [hc, Int.mul_fdiv_cancel_left _ (by omega), Rat.intCast_mul, ← Rat.mul_assoc, Rat.inv_mul_cancel _ hz, Rat.one_mul]
    · rw [getElem!_neg row j hj]
      simp
  · exact ⟨1, by decide, fun j => by grind⟩
theorem headedR_spec (row : List Int) (p : Nat) : ∃ g : Rat, g ≠ 0 ∧ ∀ j, vv (headedR row p) j = g * vv row j := by
  obtain ⟨g, hg, e⟩ := bareR_spec row
  unfold headedR
  split
  · exact ⟨g, hg, e⟩
  · refine ⟨-g, by grind, fun j => ?_⟩
    have : vv ((bareR row).map fun n => 0 - n) j = - vv (bareR row) j := by
      unfold vv
      rw [vv_map (by simp), Int.zero_sub, Rat.intCast_neg]
    rw [this, e]
    grind
theorem clearedR_spec {row head : List Int} {p : Nat} (hl : row.length = head.length) (hp : vv head p ≠ 0) : ∃ a b : Rat, a ≠ 0 ∧ (∀ j, vv (clearedR row head p) j = a * vv row j + b * vv head j) ∧ vv (clearedR row head p) p = 0 := by
  unfold clearedR
  split
  · rename_i h
    exact ⟨1, 0, by decide, fun j => by grind, vv_zero.mpr h⟩
  · obtain ⟨g, hg, e⟩ := bareR_spec ((row.zip head).map fun q => head[p]! * q.1 - row[p]! * q.2)
    have e2 : ∀ j, vv ((row.zip head).map fun q => head[p]! * q.1 - row[p]! * q.2) j = vv head p * vv row j - vv row p * vv head j := by
      intro j
      by_cases hj : j < row.length
      · have hj2 : j < head.length := by omega
        unfold vv
        rw [getElem!_pos _ j (by simp; omega), List.getElem_map, List.getElem_zip, getElem!_pos row j hj, getElem!_pos head j hj2, Rat.intCast_sub, Rat.intCast_mul, Rat.intCast_mul]
      · rw [vv_out (r := row) (j := j) (by omega), vv_out (r := head) (j := j) (by omega), vv_out (j := j) (by simp; omega)]
        grind
    refine ⟨g * vv head p, - (g * vv row p), ?_, fun j => ?_, ?_⟩
    · intro h
      rcases Rat.mul_eq_zero.mp h with q | q
      · exact hg q
      · exact hp q
    · rw [e, e2]; grind
    · rw [e, e2]; grind
/-! ### what the steps keep -/
def dot (M : Nat) (r : List Int) (z : Nat → Rat) : Rat := S (List.range M) fun j => vv r j * z j
theorem dot_lin {M : Nat} {r s h : List Int} {a b : Rat} (e : ∀ j, vv s j = a * vv r j + b * vv h j) (z : Nat → Rat) : dot M s z = a * dot M r z + b * dot M h z := by
  unfold dot
  rw [← S_mul, ← S_mul, ← S_add]
  exact S_congr fun j _ => by rw [e]; grind
/-- a row made of the given ones -/
def Comb (A : List (List Int)) (r : List Int) : Prop := ∃ c : Nat → Rat, ∀ j, vv r j = S (List.range A.length) fun i => c i * vv A[i]! j
theorem Comb.lin {A : List (List Int)} {r s h : List Int} {a b : Rat} (hr : Comb A r) (hh : Comb A h) (e : ∀ j, vv s j = a * vv r j + b * vv h j) : Comb A s := by
  obtain ⟨c, hc⟩ := hr
  obtain ⟨d, hd⟩ := hh
  refine ⟨fun i => a * c i + b * d i, fun j => ?_⟩
  rw [e, hc, hd, ← S_mul, ← S_mul, ← S_add]
  exact S_congr fun i _ => by grind
theorem Comb.self {A : List (List Int)} {r : List Int} (h : r ∈ A) : Comb A r := by
  obtain ⟨i, hi, e⟩ := List.mem_iff_getElem.mp h
  refine ⟨fun j => if j = i then 1 else 0, fun j => ?_⟩
  rw [S_one hi fun k _ hk => by show (if k = i then (1 : Rat) else 0) * _ = 0; rw [if_neg hk]; grind]
  show _ = (if i = i then (1 : Rat) else 0) * _
  rw [if_pos rfl, getElem!_pos A i hi, e]
  grind
structure Inv (A : List (List Int)) (M k : Nat) (s : St2) : Prop where
  len : ∀ r ∈ s.left ++ s.found, r.length = M
  zl : ∀ r ∈ s.left, ∀ j, j < k → vv r j = 0
  hd : ∀ r ∈ s.found, headOf r < k ∧ vv r (headOf r) ≠ 0
  pw : s.found.Pairwise fun r r' => vv r (headOf r') = 0 ∧ vv r' (headOf r) = 0
  cmb : ∀ r ∈ s.left ++ s.found, Comb A r
  ker : ∀ z : Nat → Rat, (∀ r ∈ s.left ++ s.found, dot M r z = 0) → ∀ r ∈ A, dot M r z = 0
theorem Inv.step {A : List (List Int)} {M k : Nat} {s : St2} (h : Inv A M k s) : Inv A M (k + 1) (stepI k s) := by
  unfold stepI
  split
  · rename_i i hi
    obtain ⟨hl, hne, _⟩ := findIdx_some hi
    have hm : s.left[i]! ∈ s.left := get_mem hl
    have hk0 : vv s.left[i]! k ≠ 0 := by
      rw [Ne, vv_zero, getElem!_pos s.left i hl]
      simpa using hne
    have sub : ∀ r ∈ s.left.take i ++ s.left.drop (i + 1), r ∈ s.left := fun r hr => by
      rcases List.mem_append.mp hr with q | q
      · exact List.mem_of_mem_take q
      · exact List.mem_of_mem_drop q
    have sup : ∀ r ∈ s.left, r = s.left[i]! ∨ r ∈ s.left.take i ++ s.left.drop (i + 1) := fun r hr => by
      have e : s.left = s.left.take i ++ s.left[i]! :: s.left.drop (i + 1) := by
        rw [getElem!_pos s.left i hl, List.getElem_cons_drop, List.take_append_drop]
      rw [e] at hr
      rcases List.mem_append.mp hr with q | q
      · exact .inr (List.mem_append_left _ q)
      · rcases List.mem_cons.mp q with q | q
        · exact .inl q
        · exact .inr (List.mem_append_right _ q)
    obtain ⟨g, hg, he⟩ := headedR_spec s.left[i]! k
    have hlen : (headedR s.left[i]! k).length = M := by rw [headedR_len]; exact h.len _ (List.mem_append_left _ hm)
    generalize headedR s.left[i]! k = H at *
    have hk : vv H k ≠ 0 := by
      rw [he]
      intro q
      rcases Rat.mul_eq_zero.mp q with q | q
      · exact hg q
      · exact hk0 q
    have hz : ∀ j, j < k → vv H j = 0 := fun j hj => by rw [he, h.zl _ hm j hj]; grind
    have hH : headOf H = k := headOf_eq hk hz
    have cH : Comb A H := (h.cmb _ (List.mem_append_left _ hm)).lin (a := g) (b := 0) (h.cmb _ (List.mem_append_left _ hm)) (fun j => by rw [he]; grind)
    have cl : ∀ r, r ∈ s.left ++ s.found → ∃ a b : Rat, a ≠ 0 ∧ (∀ j, vv (clearedR r H k) j = a * vv r j + b * vv H j) ∧ vv (clearedR r H k) k = 0 := fun r hr => clearedR_spec (by rw [hlen]; exact h.len r hr) hk
    have hho : ∀ r ∈ s.found, headOf (clearedR r H k) = headOf r := fun r hr => by
      obtain ⟨a, b, ha, e, _⟩ := cl r (List.mem_append_right _ hr)
      obtain ⟨h1, h2⟩ := h.hd r hr
      have hlr : headOf r < r.length := vv_lt h2
      refine headOf_eq ?_ fun j hj => ?_
      · rw [e, hz _ h1]
        intro q
        have : a * vv r (headOf r) = 0 := by grind
        rcases Rat.mul_eq_zero.mp this with q | q
        · exact ha q
        · exact h2 q
      · rw [e, hz j (by omega), (headOf_at hlr).2 j hj]
        grind
    refine ⟨fun r hr => ?_, fun r hr j hj => ?_, fun r hr => ?_, ?_, fun r hr => ?_, fun z hz0 => h.ker z ?_⟩
    · rcases List.mem_append.mp hr with q | q
      · obtain ⟨y, hy, rfl⟩ := List.mem_map.mp q
        have := h.len _ (List.mem_append_left _ (sub y hy))
        rw [clearedR_len (by omega)]; exact this
      · rcases List.mem_append.mp q with q | q
        · obtain ⟨y, hy, rfl⟩ := List.mem_map.mp q
          have := h.len _ (List.mem_append_right _ hy)
          rw [clearedR_len (by omega)]; exact this
        · rw [List.mem_singleton.mp q]; exact hlen
    · obtain ⟨y, hy, rfl⟩ := List.mem_map.mp hr
      obtain ⟨a, b, ha, e, e0⟩ := cl y (List.mem_append_left _ (sub y hy))
      by_cases q : j = k
      · rw [q]; exact e0
      · rw [e, hz j (by omega), h.zl y (sub y hy) j (by omega)]
        grind
    · rcases List.mem_append.mp hr with q | q
      · obtain ⟨y, hy, rfl⟩ := List.mem_map.mp q
        obtain ⟨a, b, ha, e, _⟩ := cl y (List.mem_append_right _ hy)
        obtain ⟨h1, h2⟩ := h.hd y hy
        rw [hho y hy]
        refine ⟨by omega, ?_⟩
        rw [e, hz _ h1]
        intro q
        have : a * vv y (headOf y) = 0 := by grind
        rcases Rat.mul_eq_zero.mp this with q | q
        · exact ha q
        · exact h2 q
      · rw [List.mem_singleton.mp q, hH]
        exact ⟨by omega, hk⟩
    · rw [List.pairwise_append]
      refine ⟨?_, List.pairwise_singleton _ _, fun x hx y hy => ?_⟩
      · rw [List.pairwise_map]
        refine h.pw.imp_of_mem fun {x y} hx hy hxy => ?_
        rw [hho x hx, hho y hy]
        obtain ⟨a, b, _, e, _⟩ := cl x (List.mem_append_right _ hx)
        obtain ⟨a', b', _, e', _⟩ := cl y (List.mem_append_right _ hy)
        rw [e, e', hz _ (h.hd x hx).1, hz _ (h.hd y hy).1, hxy.1, hxy.2]
        constructor <;> grind
      · rw [List.mem_singleton.mp hy, hH]
        obtain ⟨y0, hy0, rfl⟩ := List.mem_map.mp hx
        obtain ⟨a, b, _, _, e0⟩ := cl y0 (List.mem_append_right _ hy0)
        rw [hho y0 hy0]
        exact ⟨e0, hz _ (h.hd y0 hy0).1⟩
    · rcases List.mem_append.mp hr with q | q
      · obtain ⟨y, hy, rfl⟩ := List.mem_map.mp q
        obtain ⟨a, b, ha, e, e0⟩ := cl y (List.mem_append_left _ (sub y hy))
        exact (h.cmb y (List.mem_append_left _ (sub y hy))).lin cH e
      · rcases List.mem_append.mp q with q | q
        · obtain ⟨y, hy, rfl⟩ := List.mem_map.mp q
          obtain ⟨a, b, ha, e, e0⟩ := cl y (List.mem_append_right _ hy)
          exact (h.cmb y (List.mem_append_right _ hy)).lin cH e
        · rw [List.mem_singleton.mp q]; exact cH
    · have d0 : dot M H z = 0 := hz0 H (List.mem_append_right _ (List.mem_append_right _ (List.mem_singleton.mpr rfl)))
      have back : ∀ r, r ∈ s.left ++ s.found → dot M (clearedR r H k) z = 0 → dot M r z = 0 := fun r hr d1 => by
        obtain ⟨a, b, ha, e, _⟩ := cl r hr
        rw [dot_lin e, d0] at d1
        have : a * dot M r z = 0 := by grind
        rcases Rat.mul_eq_zero.mp this with q | q
        · exact absurd q ha
        · exact q
      intro r hr
      rcases List.mem_append.mp hr with q | q
      · rcases sup r q with q2 | q2
        · rw [q2]
          rw [dot_lin (r := s.left[i]!) (h := s.left[i]!) (a := g) (b := 0) (fun j => by rw [he]; grind)] at d0
          have : g * dot M s.left[i]! z = 0 := by grind
          rcases Rat.mul_eq_zero.mp this with q | q
          · exact absurd q hg
          · exact q
        · exact back r hr (hz0 _ (List.mem_append_left _ (List.mem_map.mpr ⟨r, q2, rfl⟩)))
      · exact back r hr (hz0 _ (List.mem_append_right _ (List.mem_append_left _ (List.mem_map.mpr ⟨r, q, rfl⟩))))
  · rename_i hi
    rw [List.findIdx?_eq_none_iff] at hi
    refine ⟨h.len, fun r hr j hj => ?_, fun r hr => ⟨by have := (h.hd r hr).1; omega, (h.hd r hr).2⟩, h.pw, h.cmb, h.ker⟩
    by_cases q : j = k
    · rw [q, vv_zero]
      simpa using hi r hr
    · exact h.zl r hr j (by omega)
theorem inv_steps {A : List (List Int)} {M : Nat} (hA : ∀ r ∈ A, r.length = M) : ∀ k, Inv A M k (stepsTo A k)
  | 0 => by
    have e : stepsTo A 0 = ⟨A, []⟩ := rfl
    rw [e]
    refine ⟨fun r hr => hA r (by simpa using hr), fun r _ j hj => by omega, fun r hr => by simp at hr, List.Pairwise.nil, fun r hr => Comb.self (by simpa using hr), fun z hz r hr => hz r (by simpa using hr)⟩
  | k + 1 => by
    rw [stepsTo_succ]
    exact (inv_steps hA k).step
theorem found_le (A : List (List Int)) : ∀ k, (stepsTo A k).found.length ≤ k
  | 0 => by simp [stepsTo]
  | k + 1 => by
    rw [stepsTo_succ]
    have := found_le A k
    unfold stepI
    split
    · simp; omega
    · omega
/-- from t places on nothing is left -/
def Dead (A : List (List Int)) (t : Nat) : Prop := ∀ r, Comb A r → (∀ j, j < t → vv r j = 0) → ∀ j, vv r j = 0
theorem steps_dead {A : List (List Int)} {M t : Nat} (hA : ∀ r ∈ A, r.length = M) (hd : Dead A t) : ∀ k, stepsTo A (t + k) = stepsTo A t
  | 0 => rfl
  | k + 1 => by
    rw [show t + (k + 1) = (t + k) + 1 by omega, stepsTo_succ, steps_dead hA hd k]
    have h := inv_steps hA t
    have e : (stepsTo A t).left.findIdx? (fun r => decide (r[t + k]! ≠ 0)) = none := by
      rw [List.findIdx?_eq_none_iff]
      intro r hr
      have := hd r (h.cmb r (List.mem_append_left _ hr)) (h.zl r hr) (t + k)
      rw [vv_zero] at this
      simpa using this
    unfold stepI
    rw [e]
/-- the steps at their end -/
structure Ended (A : List (List Int)) (M t : Nat) (fs : List (List Int)) : Prop where
  len : ∀ r ∈ fs, r.length = M
  hd : ∀ r ∈ fs, headOf r < t ∧ vv r (headOf r) ≠ 0
  pw : fs.Pairwise fun r r' => vv r (headOf r') = 0 ∧ vv r' (headOf r) = 0
  ker : ∀ z : Nat → Rat, (∀ r ∈ fs, dot M r z = 0) → ∀ r ∈ A, dot M r z = 0
  few : fs.length ≤ t
theorem ended {A : List (List Int)} {M t : Nat} (h0 : 0 < A.length) (hA : ∀ r ∈ A, r.length = M) (hd : Dead A t) (ht : t ≤ M) : int_stepsR A = (stepsTo A t).found ∧ Ended A M t (int_stepsR A) := by
  have w : wid A = M := by
    unfold wid
    rw [if_pos h0]
    exact hA _ (get_mem h0)
  have e : int_stepsR A = (stepsTo A t).found := by
    unfold int_stepsR
    rw [w, show M = t + (M - t) by omega, steps_dead hA hd]
  refine ⟨e, ?_⟩
  rw [e]
  have h := inv_steps hA t
  refine ⟨fun r hr => h.len r (List.mem_append_right _ hr), h.hd, h.pw, fun z hz => h.ker z fun r hr => ?_, found_le A t⟩
  rcases List.mem_append.mp hr with q | q
  · have := hd r (h.cmb r hr) (h.zl r q)
    exact S_zero' fun j _ => by rw [this]; grind
  · exact hz r q
end Gw
/-! Plain: what is ahead solves the flows' rows. -/
namespace Gw
theorem lcmD_pos (xs : List Rat) : 0 < lcmD xs := by
  have all : ∀ (xs : List Rat) (b : Nat), 0 < b → 0 < xs.foldl (fun b x => Nat.lcm b x.den) b := by
    intro xs
    induction xs with
    | nil => intro b h; exact h
    | cons x xs ih => intro b h; exact ih _ (Nat.lcm_pos h x.den_pos)
  exact all xs 1 (by omega)
theorem wholesL_vv (xs : List Rat) (j : Nat) : vv (wholesL xs) j = ((lcmD xs : Nat) : Rat) * xs[j]! := by
  by_cases h : j < xs.length
  · unfold vv wholesL
    rw [getElem!_pos _ j (by simpa using h), List.getElem_map, getElem!_pos xs j h]
    generalize hx : xs[j] = x
    obtain ⟨c, hc⟩ := den_dvd_lcmD (x := x) (xs := xs) (by rw [← hx]; exact List.getElem_mem h)
    have hd := x.den_pos
    rw [hc, Int.natCast_mul, Int.mul_fdiv_cancel_left _ (by omega), Rat.intCast_mul, Rat.natCast_mul]
    have e : ((x.den : Nat) : Rat) * x = ((x.num : Int) : Rat) := by
      have h1 : x = ((x.num : Int) : Rat) / ((x.den : Nat) : Rat) := by
        conv => lhs; rw [← q_self x, Rat.divInt_eq_div]
        rfl
      have h2 : ((x.den : Nat) : Rat) ≠ 0 := by
        rw [Ne, Rat.natCast_eq_zero_iff]; omega
      have key : ∀ a b : Rat, b ≠ 0 → x = a / b → b * x = a := fun a b hb e => by rw [e, Rat.mul_comm, Rat.div_mul_cancel hb]
      exact key _ _ h2 h1
    have e2 : (((c : Nat) : Int) : Rat) = ((c : Nat) : Rat) := rfl
    rw [e2, ← e]
    grind
  · rw [vv_out (by simp [wholesL]; omega), getElem!_neg xs j h]
    show 0 = _ * (0 : Rat)
    grind
theorem wholesL_len (xs : List Rat) : (wholesL xs).length = xs.length := by simp [wholesL]
/-- flows on a net, goals that add up to 0 -/
structure Net (flows goals : List (List Rat)) : Prop where
  m : 0 < flows.length
  rr : ∀ r ∈ flows, r.length = flows.length
  sym : ∀ i j, i < flows.length → j < flows.length → (flows[i]!)[j]! = (flows[j]!)[i]!
  nn : ∀ i j, i < flows.length → j < flows.length → 0 ≤ (flows[i]!)[j]!
  dg : ∀ i, i < flows.length → (flows[i]!)[i]! = 0
  c : Conn flows
  gr : ∀ g ∈ goals, g.length = flows.length
  g0 : ∀ g ∈ goals, sumR g = 0
def fF (flows : List (List Rat)) (i j : Nat) : Rat := (flows[i]!)[j]!
def lapA (flows goals : List (List Rat)) : List (List Int) := (lapRows flows goals).map wholesL
section
variable {flows goals : List (List Rat)}
theorem lapRows_len : (lapRows flows goals).length = flows.length := by simp [lapRows]
theorem lapA_len : (lapA flows goals).length = flows.length := by simp [lapA, lapRows]
theorem lapRow_len {f : List Rat} {i : Nat} : (lapRow f i goals).length = f.length + goals.length := by simp [lapRow]
theorem lapRows_at {i : Nat} (h : i < flows.length) : (lapRows flows goals)[i]! = lapRow flows[i]! i goals := by
  rw [getElem!_pos _ i (by rw [lapRows_len]; exact h), getElem!_pos flows i h]
  simp [lapRows]
theorem lapA_at {i : Nat} (h : i < flows.length) : (lapA flows goals)[i]! = wholesL (lapRow flows[i]! i goals) := by
  rw [getElem!_pos _ i (by rw [lapA_len]; exact h)]
  unfold lapA
  rw [List.getElem_map]
  rw [← lapRows_at (goals := goals) h, getElem!_pos]
theorem Net.row (h : Net flows goals) {i : Nat} (hi : i < flows.length) : (flows[i]!).length = flows.length := h.rr _ (get_mem hi)
theorem Net.lapA_row (h : Net flows goals) : ∀ r ∈ lapA flows goals, r.length = flows.length + goals.length := by
  intro r hr
  obtain ⟨i, hi, rfl⟩ := List.mem_iff_getElem.mp hr
  rw [lapA_len] at hi
  rw [← getElem!_pos (lapA flows goals) i (by rw [lapA_len]; exact hi), lapA_at hi, wholesL_len, lapRow_len, h.row hi]
/-- a row's entries -/
theorem lapRow_lo {f : List Rat} {i j : Nat} (hj : j < f.length) : (lapRow f i goals)[j]! = if j = i then sumR f else 0 - f[j]! := by
  unfold lapRow
  rw [getElem!_pos _ j (by simp; omega), List.getElem_append_left (by simpa using hj), List.getElem_set]
  split
  · rename_i e; rw [if_pos e.symm]
  · rename_i e
    rw [if_neg (fun q => e q.symm), List.getElem_map, getElem!_pos f j hj]
theorem lapRow_hi {f : List Rat} {i k : Nat} (hk : k < goals.length) : (lapRow f i goals)[f.length + k]! = (goals[k]!)[i]! := by
  unfold lapRow
  rw [getElem!_pos _ _ (by simp; omega), List.getElem_append_right (by simp), List.getElem_map, getElem!_pos goals k hk]
  simp
theorem Net.sumF (h : Net flows goals) {i : Nat} (hi : i < flows.length) : sumR flows[i]! = S (List.range flows.length) (fun j => fF flows i j) := by
  rw [sumR_S, S_range, h.row hi]
  rfl
theorem Net.symF (h : Net flows goals) : ∀ i j, i < flows.length → j < flows.length → fF flows i j = fF flows j i := h.sym
/-- a mix of the rows: what stands in it -/
theorem Net.mix (h : Net flows goals) (c : Nat → Rat) {j : Nat} (hj : j < flows.length) : S (List.range flows.length) (fun i => c i * (lapRow flows[i]! i goals)[j]!) = lap flows.length (fF flows) c j := by
  have e1 : S (List.range flows.length) (fun i => c i * (lapRow flows[i]! i goals)[j]!) = S (List.range flows.length) (fun i => if i = j then c j * sumR flows[j]! else 0) - S (List.range flows.length) (fun i => c i * fF flows i j) := by
    rw [← S_sub]
    refine S_congr fun i hi => ?_
    have hi := List.mem_range.mp hi
    rw [lapRow_lo (by rw [h.row hi]; exact hj)]
    by_cases e : i = j
    · subst e
      rw [if_pos rfl, if_pos rfl]
      have : fF flows i i = 0 := h.dg i hi
      rw [this]; grind
    · rw [if_neg (fun q => e q.symm), if_neg e]
      show c i * (0 - fF flows i j) = _
      grind
  rw [e1, S_one (i := j) hj fun k _ hk => if_neg hk, if_pos rfl, h.sumF hj]
  unfold lap
  rw [← S_mul, ← S_sub]
  refine S_congr fun i hi => ?_
  rw [h.symF i j (List.mem_range.mp hi) hj]
  grind
theorem lap_sum {m : Nat} {F : Nat → Nat → Rat} (h : ∀ i j, i < m → j < m → F i j = F j i) (x : Nat → Rat) : S (List.range m) (fun i => lap m F x i) = 0 := by
  have e := lap_sym h (fun _ => 1) x
  rw [S_congr (g := fun i => lap m F x i) (fun i _ => by grind)] at e
  rw [e]
  refine S_zero' fun i _ => ?_
  have : lap m F (fun _ => 1) i = 0 := S_zero' fun j _ => by grind
  rw [this]; grind
theorem Net.dead (h : Net flows goals) : Dead (lapA flows goals) (flows.length - 1) := by
  intro r ⟨c, hc⟩ hz
  rw [lapA_len] at hc
  have hm := h.m
  have e : ∀ j, vv r j = S (List.range flows.length) fun i => (c i * ((lcmD (lapRow flows[i]! i goals) : Nat) : Rat)) * (lapRow flows[i]! i goals)[j]! := fun j => by
    rw [hc]
    refine S_congr fun i hi => ?_
    rw [lapA_at (List.mem_range.mp hi), wholesL_vv]
    grind
  generalize (fun i => c i * ((lcmD (lapRow flows[i]! i goals) : Nat) : Rat)) = d at e
  clear hc
  generalize hd : (fun i => c i * ((lcmD (lapRow flows[i]! i goals) : Nat) : Rat)) = d at *
  have e : ∀ j, vv r j = S (List.range flows.length) fun i => d i * (lapRow flows[i]! i goals)[j]! := fun j => by
    rw [e, ← hd]
  have lo : ∀ j, j < flows.length → vv r j = lap flows.length (fF flows) d j := fun j hj => by rw [e, h.mix d hj]
  have last : vv r (flows.length - 1) = 0 := by
    have s := lap_sum h.symF d
    rw [S_one (i := flows.length - 1) (by omega) fun j hj hne => by rw [← lo j hj, hz j (by omega)], ← lo _ (by omega)] at s
    exact s
  have l0 : ∀ j, j < flows.length → lap flows.length (fF flows) d j = 0 := fun j hj => by
    rw [← lo j hj]
    by_cases q : j = flows.length - 1
    · rw [q]; exact last
    · exact hz j (by omega)
  have cst := lap_const h.symF h.nn h.c l0
  intro j
  by_cases q : j < flows.length
  · rw [lo j q, l0 j q]
  · rw [e]
    by_cases q2 : j - flows.length < goals.length
    · have hg := h.g0 _ (get_mem q2)
      rw [sumR_S, S_range, h.gr _ (get_mem q2)] at hg
      rw [S_congr (g := fun i => d 0 * (goals[j - flows.length]!)[i]!), S_mul, hg]
      · grind
      · intro i hi
        have hi := List.mem_range.mp hi
        have := lapRow_hi (f := flows[i]!) (i := i) q2
        rw [h.row hi, show flows.length + (j - flows.length) = j by omega] at this
        rw [this, cst i hi]
    · refine S_zero' fun i hi => ?_
      have hi := List.mem_range.mp hi
      rw [getElem!_neg _ j (by rw [lapRow_len, h.row hi]; omega)]
      show d i * (0 : Rat) = 0
      grind
theorem Net.ended (h : Net flows goals) : int_stepsR (lapA flows goals) = (stepsTo (lapA flows goals) (flows.length - 1)).found ∧ Ended (lapA flows goals) (flows.length + goals.length) (flows.length - 1) (int_stepsR (lapA flows goals)) := Gw.ended (by rw [lapA_len]; exact h.m) h.lapA_row h.dead (by omega)
end
/-! ### the told rows -/
theorem told_len (r : List Int) : (told_rowR r).length = r.length := by simp [told_rowR]
theorem told_at {r : List Int} (j : Nat) : (told_rowR r)[j]! = vv r j / vv r (headOf r) := by
  by_cases h : j < r.length
  · unfold told_rowR
    rw [getElem!_pos _ j (by simpa using h), List.getElem_map, Rat.divInt_eq_div]
    unfold vv
    rw [getElem!_pos r j h]
  · rw [getElem!_neg _ j (by rw [told_len]; exact h), vv_out (by omega)]
    show (0 : Rat) = _
    rw [Rat.div_def, Rat.zero_mul]
theorem told_head {r : List Int} (h : vv r (headOf r) ≠ 0) : headQ (told_rowR r) = headOf r := by
  have h2 : r[headOf r]! ≠ 0 := fun q => h (vv_zero.mpr q)
  generalize hd : r[headOf r]! = d at h2
  have e : (told_rowR r).map (fun q => q.num) = r.map fun n => (Rat.divInt n d).num := by
    unfold told_rowR
    rw [List.map_map, hd]
    rfl
  unfold headQ
  rw [e]
  unfold headOf
  rw [List.findIdx_map]
  congr 1
  funext n
  simp only [Function.comp]
  rw [decide_eq_decide]
  rw [Ne, Ne, Rat.num_eq_zero]
  refine not_congr ⟨fun q => ?_, fun q => by rw [q, Rat.zero_divInt]⟩
  rw [Rat.divInt_eq_div, Rat.div_def] at q
  have hz : ((d : Int) : Rat) ≠ 0 := by rw [Ne, Rat.intCast_eq_zero_iff]; exact h2
  rcases Rat.mul_eq_zero.mp q with q | q
  · exact Rat.intCast_eq_zero_iff.mp q
  · exfalso
    have := Rat.inv_mul_cancel _ hz
    rw [q] at this
    grind
theorem fold_set {n k : Nat} : ∀ {rows : List (List Rat)} {l : List Rat}, rows.Pairwise (fun r r' => headQ r ≠ headQ r') → (∀ r ∈ rows, headQ r < l.length) →
    (∀ r ∈ rows, (rows.foldl (fun l row => l.set (headQ row) (row[n + k]!)) l)[headQ r]! = r[n + k]!) ∧ ∀ j, (∀ r ∈ rows, headQ r ≠ j) → (rows.foldl (fun l row => l.set (headQ row) (row[n + k]!)) l)[j]! = l[j]!
  | [], l, _, _ => ⟨fun r hr => by simp at hr, fun j _ => rfl⟩
  | r :: rs, l, hp, hl => by
    rw [List.pairwise_cons] at hp
    obtain ⟨i1, i2⟩ := fold_set (n := n) (k := k) (rows := rs) (l := l.set (headQ r) (r[n + k]!)) hp.2 (fun q hq => by rw [List.length_set]; exact hl q (by simp [hq]))
    refine ⟨fun q hq => ?_, fun j hj => ?_⟩
    · rw [List.foldl_cons]
      rcases List.mem_cons.mp hq with e | e
      · subst e
        rw [i2 _ fun q' hq' => (hp.1 q' hq').symm]
        have := hl q (by simp)
        rw [getElem!_pos _ _ (by rw [List.length_set]; exact this)]
        simp
      · exact i1 q e
    · rw [List.foldl_cons, i2 j fun q hq => hj q (by simp [hq])]
      by_cases q : j < l.length
      · rw [getElem!_pos _ j (by rw [List.length_set]; exact q), getElem!_pos l j q, List.getElem_set_ne (hj r (by simp))]
      · rw [getElem!_neg _ j (by rw [List.length_set]; exact q), getElem!_neg l j q]
theorem pw_mem {α : Type} {R : α → α → Prop} (sy : ∀ x y, R x y → R y x) {l : List α} (h : l.Pairwise R) {a b : α} (ha : a ∈ l) (hb : b ∈ l) (hab : a ≠ b) : R a b := by
  induction h with
  | nil => simp at ha
  | cons h1 _ ih =>
    rcases List.mem_cons.mp ha with q | q
    · rcases List.mem_cons.mp hb with p | p
      · exact absurd (q.trans p.symm) hab
      · rw [q]; exact h1 b p
    · rcases List.mem_cons.mp hb with p | p
      · rw [p]; exact sy _ _ (h1 a q)
      · exact ih q p
theorem S_split {f : Nat → Rat} {m : Nat} : ∀ n, S (List.range (m + n)) f = S (List.range m) f + S (List.range n) (fun k => f (m + k))
  | 0 => by rw [Nat.add_zero, List.range_zero, S_nil]; grind
  | n + 1 => by
    rw [← Nat.add_assoc, List.range_succ, List.range_succ, S_app, S_app, S_split n, S_cons, S_cons, S_nil, S_nil]
    grind
section
variable {flows goals : List (List Rat)}
/-- what is ahead solves -/
theorem Net.solves (h : Net flows goals) {k : Nat} (hk : k < goals.length) {i : Nat} (hi : i < flows.length) : lap flows.length (fF flows) (fun j => ((aheadsR flows goals)[k]!)[j]!) i = (goals[k]!)[i]! := by
  obtain ⟨_, E⟩ := h.ended
  have hx : (aheadsR flows goals)[k]! = ((int_stepsR (lapA flows goals)).map told_rowR).foldl (fun l row => l.set (headQ row) (row[flows.length + k]!)) (List.replicate flows.length 0) := by
    unfold aheadsR
    rw [getElem!_pos _ k (by simpa using hk), List.getElem_map, List.getElem_range]
    rfl
  rw [hx]
  clear hx
  have hn : ∀ r ∈ int_stepsR (lapA flows goals), vv r (headOf r) ≠ 0 := fun r hr => (E.hd r hr).2
  have pw : ((int_stepsR (lapA flows goals)).map told_rowR).Pairwise fun r r' => headQ r ≠ headQ r' := by
    rw [List.pairwise_map]
    refine E.pw.imp_of_mem fun {a b} ha hb hab => ?_
    rw [told_head (hn a ha), told_head (hn b hb)]
    intro q
    rw [q] at hab
    exact hn b hb hab.2 |>.elim
  have hl : ∀ r ∈ (int_stepsR (lapA flows goals)).map told_rowR, headQ r < (List.replicate flows.length (0 : Rat)).length := fun r hr => by
    obtain ⟨y, hy, rfl⟩ := List.mem_map.mp hr
    rw [told_head (hn y hy), List.length_replicate]
    have := (E.hd y hy).1
    omega
  obtain ⟨f1, f2⟩ := fold_set (n := flows.length) (k := k) pw hl
  generalize hX : ((int_stepsR (lapA flows goals)).map told_rowR).foldl (fun l row => l.set (headQ row) (row[flows.length + k]!)) (List.replicate flows.length 0) = X at *
  have xh : ∀ r ∈ int_stepsR (lapA flows goals), X[headOf r]! = vv r (flows.length + k) / vv r (headOf r) := fun r hr => by
    have := f1 _ (List.mem_map.mpr ⟨r, hr, rfl⟩)
    rw [told_head (hn r hr), told_at] at this
    exact this
  have x0 : ∀ j, j < flows.length → (∀ r ∈ int_stepsR (lapA flows goals), headOf r ≠ j) → X[j]! = 0 := fun j hj hr => by
    rw [f2 j fun r hr2 => by
      obtain ⟨y, hy, rfl⟩ := List.mem_map.mp hr2
      rw [told_head (hn y hy)]
      exact hr y hy, getElem!_pos _ j (by simpa using hj), List.getElem_replicate]
  have z := E.ker (fun j => if j < flows.length then X[j]! else if j = flows.length + k then -1 else 0) (fun r hr => by
    unfold dot
    rw [S_split, S_one (i := headOf r) (by have := (E.hd r hr).1; omega), S_one (i := k) hk]
    · dsimp only
      rw [if_pos (by have := (E.hd r hr).1; omega), if_neg (by omega), if_pos rfl, xh r hr]
      rw [Rat.mul_comm (vv r (headOf r)), Rat.div_mul_cancel (hn r hr)]
      grind
    · intro j hj hne
      show vv r (flows.length + j) * (if flows.length + j < flows.length then _ else if flows.length + j = flows.length + k then _ else _) = 0
      rw [if_neg (by omega), if_neg (by omega)]
      grind
    · intro j hj hne
      show vv r j * (if j < flows.length then _ else _) = 0
      rw [if_pos hj]
      by_cases q : ∃ r' ∈ int_stepsR (lapA flows goals), headOf r' = j
      · obtain ⟨r', hr', e⟩ := q
        have : vv r j = 0 := by
          rw [← e]
          have pw' : ∀ a ∈ int_stepsR (lapA flows goals), ∀ b ∈ int_stepsR (lapA flows goals), a ≠ b → vv a (headOf b) = 0 := by
            intro a ha b hb hab
            exact (pw_mem (fun x y q => ⟨q.2, q.1⟩) E.pw ha hb hab).1
          refine pw' r hr r' hr' fun q => ?_
          subst q
          exact hne e.symm
        rw [this]; grind
      · rw [x0 j hj fun r' hr' e => q ⟨r', hr', e⟩]; grind) ((lapA flows goals)[i]!) (get_mem (by rw [lapA_len]; exact hi))
  unfold dot at z
  rw [lapA_at hi] at z
  have z2 : ((lcmD (lapRow flows[i]! i goals) : Nat) : Rat) * S (List.range (flows.length + goals.length)) (fun j => (lapRow flows[i]! i goals)[j]! * (if j < flows.length then X[j]! else if j = flows.length + k then -1 else 0)) = 0 := by
    rw [← S_mul, ← z]
    refine S_congr fun j _ => ?_
    rw [wholesL_vv]; grind
  have z3 : S (List.range (flows.length + goals.length)) (fun j => (lapRow flows[i]! i goals)[j]! * (if j < flows.length then X[j]! else if j = flows.length + k then -1 else 0)) = 0 := by
    rcases Rat.mul_eq_zero.mp z2 with q | q
    · have := lcmD_pos (lapRow flows[i]! i goals)
      rw [Rat.natCast_eq_zero_iff] at q
      omega
    · exact q
  rw [S_split, S_one (i := k) hk] at z3
  · have hh := lapRow_hi (f := flows[i]!) (i := i) hk
    rw [h.row hi] at hh
    rw [hh, if_neg (by omega), if_pos rfl] at z3
    have e1 : S (List.range flows.length) (fun j => (lapRow flows[i]! i goals)[j]! * (if j < flows.length then X[j]! else if j = flows.length + k then -1 else 0)) = lap flows.length (fF flows) (fun j => X[j]!) i := by
      have e2 : S (List.range flows.length) (fun j => (lapRow flows[i]! i goals)[j]! * (if j < flows.length then X[j]! else if j = flows.length + k then -1 else 0)) = S (List.range flows.length) (fun j => if j = i then sumR flows[i]! * X[i]! else 0) - S (List.range flows.length) (fun j => fF flows i j * X[j]!) := by
        rw [← S_sub]
        refine S_congr fun j hj => ?_
        have hj := List.mem_range.mp hj
        rw [if_pos hj, lapRow_lo (by rw [h.row hi]; exact hj)]
        by_cases e : j = i
        · subst e
          rw [if_pos rfl, if_pos rfl]
          have : fF flows j j = 0 := h.dg j hi
          rw [this]; grind
        · rw [if_neg e, if_neg e]
          show (0 - fF flows i j) * _ = _
          grind
      rw [e2, S_one (i := i) hi fun k _ hk => if_neg hk, if_pos rfl, h.sumF hi]
      unfold lap
      rw [← S_mulr, ← S_sub]
      exact S_congr fun j _ => by grind
    rw [e1] at z3
    grind
  · intro j hj hne
    show _ * (if flows.length + j < flows.length then _ else if flows.length + j = flows.length + k then _ else _) = 0
    rw [if_neg (by omega), if_neg (by omega)]
    grind
end
end Gw
/-! Plain: the table by sums; told in another sequence, by another measure, it is the same. -/
namespace Gw
theorem flowR_sym (rows : List (List Rat)) (ws : List Rat) (a b : St3) : flowR rows ws a b = flowR rows ws b a := by
  unfold flowR
  generalize hereR rows ws a b = x
  generalize hereR rows ws b a = y
  split <;> split <;> grind
/-- what a goal is at a standing -/
def gf (ws : List Rat) (p : Nat) (one : St3) : Rat := ws[one.1]! * one.2.1 * one.2.2 * ((if one.1 = p then (1 : Rat) else 0) - (sharesR ws)[p]!)
theorem goalsR_at {ws : List Rat} {ss : List St3} {p : Nat} (hp : p < ws.length) : (goalsR ws ss)[p]! = ss.map (gf ws p) := by
  have hp2 : p < (sharesR ws).length := by rw [sharesR_len]; exact hp
  rw [getElem!_pos _ p (by rw [goalsR_len]; exact hp)]
  unfold goalsR
  rw [List.getElem_map, List.getElem_zipIdx]
  unfold goalOf gf
  rw [getElem!_pos _ p hp2]
  simp
theorem goalsR_at2 {ws : List Rat} {ss : List St3} {p i : Nat} (hp : p < ws.length) (hi : i < ss.length) : ((goalsR ws ss)[p]!)[i]! = gf ws p ss[i]! := by
  rw [goalsR_at hp, getElem!_pos _ i (by simpa using hi), List.getElem_map, getElem!_pos ss i hi]
theorem flowsR_at {rows : List (List Rat)} {ws : List Rat} {ss : List St3} {i j : Nat} (hi : i < ss.length) (hj : j < ss.length) : fF (flowsR rows ws ss) i j = if i = j then 0 else flowR rows ws ss[i]! ss[j]! := by
  unfold fF
  rw [getElem!_pos ss i hi, getElem!_pos ss j hj]
  have l1 : (flowsR rows ws ss).length = ss.length := flowsR_len rows ws ss
  rw [getElem!_pos (flowsR rows ws ss) i (by omega)]
  have l2 : ((flowsR rows ws ss)[i]'(by omega)).length = ss.length := by
    rw [flowsR_row _ (List.getElem_mem _), l1]
  rw [getElem!_pos _ j (by omega)]
  simp [flowsR]
theorem aheadOf_len {n k : Nat} {rows : List (List Rat)} : (aheadOf n rows k).length = n := by
  unfold aheadOf
  rw [foldl_set_len, List.length_replicate]
theorem aheadsR_at {flows goals : List (List Rat)} {k : Nat} (hk : k < goals.length) : ((aheadsR flows goals)[k]!).length = flows.length := by
  rw [getElem!_pos _ k (by rw [aheadsR_len]; exact hk)]
  unfold aheadsR
  rw [List.getElem_map, aheadOf_len]
theorem zip_sum {xs ys : List Rat} (h : ys.length = xs.length) : sumR ((xs.zip ys).map fun q => q.1 * q.2) = S (List.range xs.length) (fun i => xs[i]! * ys[i]!) := by
  rw [sumR_S, S_map, S_range, List.length_zip, h, Nat.min_self]
  refine S_congr fun i hi => ?_
  have hi := List.mem_range.mp hi
  rw [getElem!_pos _ i (by rw [List.length_zip]; omega), List.getElem_zip, getElem!_pos xs i hi, getElem!_pos ys i (by omega)]
/-- a list of values told beside a list that is put in another sequence -/
theorem perm_map {α β : Type} {f : α → β} {xs ys : List β} (h : xs.Perm ys) : ∀ l : List α, l.map f = xs → ∃ l' : List α, l'.Perm l ∧ l'.map f = ys := by
  induction h with
  | nil => intro l e; exact ⟨l, .refl l, e⟩
  | cons x _ ih =>
    intro l e
    cases l with
    | nil => simp at e
    | cons a l =>
      rw [List.map_cons, List.cons.injEq] at e
      obtain ⟨l', p, q⟩ := ih l e.2
      exact ⟨a :: l', p.cons a, by rw [List.map_cons, e.1, q]⟩
  | swap x y l =>
    intro k e
    match k, e with
    | a :: b :: k, e =>
      simp only [List.map_cons, List.cons.injEq] at e
      exact ⟨b :: a :: k, List.Perm.swap _ _ _, by rw [List.map_cons, List.map_cons, e.1, e.2.1, e.2.2]⟩
  | trans _ _ ih1 ih2 =>
    intro l e
    obtain ⟨l1, p1, q1⟩ := ih1 l e
    obtain ⟨l2, p2, q2⟩ := ih2 l1 q1
    exact ⟨l2, p2.trans p1, q2⟩
section
variable {rows : List (List Rat)} {ws : List Rat} {ss : List St3}
/-- a solution, as a list of standings with worths -/
def SolL (f : St3 → St3 → Rat) (g : St3 → Rat) (z : List (St3 × Rat)) : Prop := ∀ e ∈ z, S z (fun d => f e.1 d.1 * (e.2 - d.2)) = g e.1
theorem SolL.perm {f : St3 → St3 → Rat} {g : St3 → Rat} {z z' : List (St3 × Rat)} (h : SolL f g z) (p : z'.Perm z) : SolL f g z' := fun e he => by
  rw [S_perm p]
  exact h e (p.mem_iff.mp he)
theorem lap_list {x : Nat → Rat} {i : Nat} (hi : i < ss.length) : lap ss.length (fF (flowsR rows ws ss)) x i = S (List.range ss.length) fun j => flowR rows ws ss[i]! ss[j]! * (x i - x j) := by
  unfold lap
  refine S_congr fun j hj => ?_
  rw [flowsR_at hi (List.mem_range.mp hj)]
  split
  · rename_i e; subst e; grind
  · rfl
/-- the same walk told otherwise -/
structure Same (rows rows' : List (List Rat)) (ws ws' : List Rat) (ss ss' : List St3) (o : Nat → Nat) (φ : St3 → St3) (c : Rat) : Prop where
  N : Net (flowsR rows ws ss) (goalsR ws ss)
  N' : Net (flowsR rows' ws' ss') (goalsR ws' ss')
  wl : ws'.length = ws.length
  c0 : c ≠ 0
  ph : (ss'.map φ).Perm ss
  hf : ∀ a ∈ ss', ∀ b ∈ ss', flowR rows' ws' a b = c * flowR rows ws (φ a) (φ b)
  hg : ∀ p, p < ws.length → ∀ a ∈ ss', gf ws' p a = c * gf ws (o p) (φ a)
  hW : sumR ws' = c * sumR ws
  hs : ∀ p, p < ws.length → (sharesR ws')[p]! = (sharesR ws)[o p]!
  lt : ∀ p, p < ws.length → o p < ws.length
  inj : ∀ p q, p < ws.length → q < ws.length → (p = q ↔ o p = o q)
theorem mul_cancel {a b c : Rat} (h : c ≠ 0) (e : c * a = c * b) : a = b := by
  have : c * (a - b) = 0 := by grind
  rcases Rat.mul_eq_zero.mp this with q | q
  · exact absurd q h
  · grind
theorem Same.both {rows' : List (List Rat)} {ws' : List Rat} {ss' : List St3} {o : Nat → Nat} {φ : St3 → St3} {c : Rat} (h : Same rows rows' ws ws' ss ss' o φ c) {p q : Nat} (hp : p < ws.length) (hq : q < ws.length) :
    bothR ws' (goalsR ws' ss')[p]! (aheadsR (flowsR rows' ws' ss') (goalsR ws' ss'))[q]! = bothR ws (goalsR ws ss)[o p]! (aheadsR (flowsR rows ws ss) (goalsR ws ss))[o q]! := by
  have hm : ss'.length = ss.length := by rw [← h.ph.length_eq, List.length_map]
  have gl : (goalsR ws ss).length = ws.length := goalsR_len ws ss
  have gl' : (goalsR ws' ss').length = ws.length := by rw [goalsR_len, h.wl]
  have hp' := h.lt p hp
  have hq' := h.lt q hq
  unfold bothR
  rw [zip_sum, zip_sum, goalsR_at hp', goalsR_at (h.wl ▸ hp), List.length_map, List.length_map]
  · generalize hx' : (fun i : Nat => ((aheadsR (flowsR rows' ws' ss') (goalsR ws' ss'))[q]!)[i]!) = x'
    generalize hx : (fun i : Nat => ((aheadsR (flowsR rows ws ss) (goalsR ws ss))[o q]!)[i]!) = x
    have e1 : S (List.range ss'.length) (fun i => (ss'.map (gf ws' p))[i]! * ((aheadsR (flowsR rows' ws' ss') (goalsR ws' ss'))[q]!)[i]!) = S (List.range ss'.length) (fun i => gf ws' p ss'[i]! * x' i) := by
      refine S_congr fun i hi => ?_
      have hi := List.mem_range.mp hi
      rw [← hx', getElem!_pos _ i (by simpa using hi), List.getElem_map, getElem!_pos ss' i hi]
    have e2 : S (List.range ss.length) (fun i => (ss.map (gf ws (o p)))[i]! * ((aheadsR (flowsR rows ws ss) (goalsR ws ss))[o q]!)[i]!) = S (List.range ss.length) (fun i => gf ws (o p) ss[i]! * x i) := by
      refine S_congr fun i hi => ?_
      have hi := List.mem_range.mp hi
      rw [← hx, getElem!_pos _ i (by simpa using hi), List.getElem_map, getElem!_pos ss i hi]
    rw [e1, e2]
    have sx : ∀ i, i < ss.length → lap ss.length (fF (flowsR rows ws ss)) x i = gf ws (o q) ss[i]! := fun i hi => by
      have := h.N.solves (k := o q) (by rw [gl]; exact hq') (i := i) (by rw [flowsR_len]; exact hi)
      rw [flowsR_len, hx, goalsR_at2 hq' hi] at this
      exact this
    have sy : ∀ i, i < ss.length → lap ss.length (fF (flowsR rows ws ss)) (fun i => ((aheadsR (flowsR rows ws ss) (goalsR ws ss))[o p]!)[i]!) i = gf ws (o p) ss[i]! := fun i hi => by
      have := h.N.solves (k := o p) (by rw [gl]; exact hp') (i := i) (by rw [flowsR_len]; exact hi)
      rw [flowsR_len, goalsR_at2 hp' hi] at this
      exact this
    have sx' : ∀ i, i < ss'.length → lap ss'.length (fF (flowsR rows' ws' ss')) x' i = gf ws' q ss'[i]! := fun i hi => by
      have := h.N'.solves (k := q) (by rw [gl']; exact hq) (i := i) (by rw [flowsR_len]; exact hi)
      rw [flowsR_len, hx', goalsR_at2 (h.wl ▸ hq) hi] at this
      exact this
    let z' : List (St3 × Rat) := (List.range ss'.length).map fun i => (φ ss'[i]!, x' i)
    have hz' : SolL (flowR rows ws) (gf ws (o q)) z' := by
      intro e he
      obtain ⟨i, hi, rfl⟩ := List.mem_map.mp he
      have hi := List.mem_range.mp hi
      refine mul_cancel h.c0 ?_
      rw [← h.hg q hq _ (get_mem hi), ← sx' i hi, lap_list hi, S_map, ← S_mul]
      refine S_congr fun j hj => ?_
      rw [h.hf _ (get_mem hi) _ (get_mem (List.mem_range.mp hj))]
      grind
    have hz1 : z'.map (fun e => e.1) = ss'.map φ := by
      apply List.ext_getElem
      · simp [z']
      · intro i h1 h2
        simp only [List.length_map] at h2
        simp [z', h2]
    obtain ⟨z, pz, ez⟩ := perm_map h.ph z' hz1
    have hz := hz'.perm pz
    have lz : z.length = ss.length := by rw [← ez, List.length_map]
    have zi : ∀ i, i < ss.length → (z[i]!).1 = ss[i]! := fun i hi => by
      rw [getElem!_pos z i (by omega), getElem!_pos ss i hi]
      have : (z.map fun e => e.1)[i]'(by simp; omega) = ss[i] := by simp only [ez]
      rwa [List.getElem_map] at this
    have s2 : ∀ i, i < ss.length → lap ss.length (fF (flowsR rows ws ss)) (fun i => (z[i]!).2) i = gf ws (o q) ss[i]! := fun i hi => by
      rw [lap_list hi, ← zi i hi, ← hz _ (get_mem (by omega)), S_range z, lz]
      exact S_congr fun j hj => by rw [zi j (List.mem_range.mp hj)]
    have u := lap_uniq (fun i j hi hj => h.N.symF i j (by rw [flowsR_len]; exact hi) (by rw [flowsR_len]; exact hj)) sx s2 sy
    have u2 : S (List.range ss'.length) (fun i => gf ws' p ss'[i]! * x' i) = c * S (List.range ss.length) (fun i => gf ws (o p) ss[i]! * x i) := by
      rw [u]
      have : S (List.range ss.length) (fun i => gf ws (o p) ss[i]! * (z[i]!).2) = S z (fun e => gf ws (o p) e.1 * e.2) := by
        rw [S_range z, lz]
        exact S_congr fun i hi => by rw [zi i (List.mem_range.mp hi)]
      rw [this, S_perm pz, S_map, ← S_mul]
      refine S_congr fun i hi => ?_
      rw [h.hg p hp _ (get_mem (List.mem_range.mp hi))]
      grind
    rw [u2, h.hW, Rat.div_def, Rat.div_def]
    by_cases q0 : sumR ws = 0
    · rw [q0]; simp
    · have i1 := Rat.inv_mul_cancel _ q0
      have : (c * sumR ws)⁻¹ = c⁻¹ * (sumR ws)⁻¹ := by
        rw [Rat.mul_comm c]
        have i2 := Rat.inv_mul_cancel _ h.c0
        have hne : sumR ws * c ≠ 0 := fun q => by
          rcases Rat.mul_eq_zero.mp q with q | q
          · exact q0 q
          · exact h.c0 q
        have i3 := Rat.inv_mul_cancel _ hne
        grind
      rw [this]
      have i2 := Rat.inv_mul_cancel _ h.c0
      grind
  · rw [aheadsR_at (by rw [gl]; exact hq'), flowsR_len, goalsR_at hp', List.length_map]
  · rw [aheadsR_at (by rw [gl']; exact hq), flowsR_len, goalsR_at (h.wl ▸ hp), List.length_map]
theorem Same.cell {rows' : List (List Rat)} {ws' : List Rat} {ss' : List St3} {o : Nat → Nat} {φ : St3 → St3} {c : Rat} (h : Same rows rows' ws ws' ss ss' o φ c) {p q : Nat} (hp : p < ws.length) (hq : q < ws.length) :
    cellR ws' (goalsR ws' ss') (aheadsR (flowsR rows' ws' ss') (goalsR ws' ss')) p q = cellR ws (goalsR ws ss) (aheadsR (flowsR rows ws ss) (goalsR ws ss)) (o p) (o q) := by
  unfold cellR
  rw [h.both hp hq, h.hs p hp, h.hs q hq]
  by_cases e : p = q
  · rw [if_pos e, if_pos ((h.inj p q hp hq).mp e)]
  · rw [if_neg e, if_neg fun k => e ((h.inj p q hp hq).mpr k)]
end
end Gw
/-! Plain: sizes of a guessed walk's numbers; it is a net. -/
namespace Gw
/-- so many parts of one, times an INTEGER -/
def IsF (D : Nat) (x : Rat) : Prop := ∃ t : Int, x * ((D : Nat) : Rat) = ((t : Int) : Rat)
theorem isF_den {D : Nat} {x : Rat} (h : x.den ∣ D) : IsF D x := by
  obtain ⟨c, rfl⟩ := h
  refine ⟨x.num * c, ?_⟩
  have h1 : x * ((x.den : Nat) : Rat) = ((x.num : Int) : Rat) := by
    have h1 : x = ((x.num : Int) : Rat) / ((x.den : Nat) : Rat) := by
      conv => lhs; rw [← q_self x, Rat.divInt_eq_div]
      rfl
    have h2 : ((x.den : Nat) : Rat) ≠ 0 := by
      rw [Ne, Rat.natCast_eq_zero_iff]; exact x.den_nz
    have key : ∀ a b : Rat, b ≠ 0 → x = a / b → x * b = a := fun a b hb e => by rw [e, Rat.div_mul_cancel hb]
    exact key _ _ h2 h1
  rw [Rat.natCast_mul, ← Rat.mul_assoc, h1, Rat.intCast_mul]
  rfl
theorem IsF.den {D : Nat} {x : Rat} (h : IsF D x) (hD : 0 < D) : x.den ∣ D := by
  obtain ⟨t, ht⟩ := h
  have hz : ((D : Nat) : Rat) ≠ 0 := by rw [Ne, Rat.natCast_eq_zero_iff]; omega
  have e : x = Rat.divInt t (D : Int) := by
    rw [Rat.divInt_eq_div, ← ht]
    show x = x * ((D : Nat) : Rat) / ((D : Nat) : Rat)
    rw [Rat.div_def, Rat.mul_assoc, Rat.mul_inv_cancel _ hz, Rat.mul_one]
  rw [e, Rat.den_divInt, if_neg (by omega), Int.natAbs_natCast]
  refine Nat.div_dvd_of_dvd ?_
  have := Int.gcd_dvd_left (a := (D : Int)) (b := t)
  exact Int.natCast_dvd_natCast.mp this
theorem IsF.add {D : Nat} {x y : Rat} (h : IsF D x) (k : IsF D y) : IsF D (x + y) := by
  obtain ⟨t, ht⟩ := h
  obtain ⟨s, hs⟩ := k
  exact ⟨t + s, by rw [Rat.intCast_add, ← ht, ← hs]; grind⟩
theorem IsF.neg {D : Nat} {x : Rat} (h : IsF D x) : IsF D (-x) := by
  obtain ⟨t, ht⟩ := h
  exact ⟨-t, by rw [Rat.intCast_neg, ← ht]; grind⟩
theorem IsF.sub {D : Nat} {x y : Rat} (h : IsF D x) (k : IsF D y) : IsF D (x - y) := by
  rw [Rat.sub_eq_add_neg]; exact h.add k.neg
theorem IsF.mul {D E : Nat} {x y : Rat} (h : IsF D x) (k : IsF E y) : IsF (D * E) (x * y) := by
  obtain ⟨t, ht⟩ := h
  obtain ⟨s, hs⟩ := k
  exact ⟨t * s, by rw [Rat.intCast_mul, Rat.natCast_mul, ← ht, ← hs]; grind⟩
theorem IsF.up {D E : Nat} {x : Rat} (h : IsF D x) (k : D ∣ E) : IsF E x := by
  obtain ⟨t, ht⟩ := h
  obtain ⟨c, rfl⟩ := k
  refine ⟨t * c, ?_⟩
  rw [Rat.natCast_mul, ← Rat.mul_assoc, ht, Rat.intCast_mul]
  rfl
theorem isF_int (D : Nat) (i : Int) : IsF D (i : Rat) := ⟨i * D, by rw [Rat.intCast_mul]; rfl⟩
theorem isF_0 (D : Nat) : IsF D 0 := isF_int D 0
theorem isF_1 (D : Nat) : IsF D 1 := isF_int D 1
theorem IsF.S {α : Type} {D : Nat} {l : List α} {f : α → Rat} (h : ∀ a ∈ l, IsF D (f a)) : IsF D (S l f) := by
  induction l with
  | nil => exact isF_0 D
  | cons a l ih =>
    rw [S_cons]
    exact (h a (by simp)).add (ih fun b hb => h b (by simp [hb]))
/-- a number between -B and B -/
def Bt (B : Nat) (x : Rat) : Prop := -((B : Nat) : Rat) ≤ x ∧ x ≤ ((B : Nat) : Rat)
theorem Bt.num {B : Nat} {x : Rat} (h : Bt B x) : x.num.natAbs ≤ B * x.den := by
  obtain ⟨h1, h2⟩ := h
  rw [Rat.le_iff] at h1 h2
  simp only [Rat.neg_num, Rat.neg_den, Rat.num_natCast, Rat.den_natCast] at h1 h2
  have e : ((B * x.den : Nat) : Int) = (B : Int) * (x.den : Int) := Int.natCast_mul _ _
  have a1 : x.num ≤ (B : Int) * (x.den : Int) := by simpa using h2
  have a2 : -((B : Int) * (x.den : Int)) ≤ x.num := by
    have : -(B : Int) * (x.den : Int) ≤ x.num := by simpa using h1
    rwa [Int.neg_mul] at this
  omega
theorem sz_of {D B n : Nat} {x : Rat} (h : IsF D x) (hb : Bt B x) (hD : 0 < D) (h1 : D < 2 ^ n) (h2 : B * D < 2 ^ n) : Sz n x := by
  have hd := Nat.le_of_dvd hD (h.den hD)
  exact ⟨Nat.lt_of_le_of_lt (Nat.le_trans hb.num (Nat.mul_le_mul_left _ hd)) h2, Nat.lt_of_le_of_lt hd h1⟩
theorem Bt.of {B : Nat} {x : Rat} (h0 : 0 ≤ x) (h : x ≤ ((B : Nat) : Rat)) : Bt B x := by
  refine ⟨?_, h⟩
  have : (0 : Rat) ≤ ((B : Nat) : Rat) := Rat.natCast_nonneg
  grind
theorem mul_le' {a b c d : Rat} (ha : 0 ≤ a) (hab : a ≤ b) (hc : 0 ≤ c) (hcd : c ≤ d) : a * c ≤ b * d := by
  have h1 : a * c ≤ b * c := Rat.mul_le_mul_of_nonneg_right hab hc
  have h2 : b * c ≤ b * d := Rat.mul_le_mul_of_nonneg_left hcd (by grind)
  grind
/-! ### a guess -/
structure GdG (g : List (Rat × Rat)) : Prop where
  gp : GuessP g
  cf : ∀ p ∈ g, p.1 ≤ 1 ∧ p.1.den ∣ 6 ∧ p.2 ≤ 2 ∧ p.2.den ∣ 2
/-- a guessed walk of two or three places with numbers that are not great -/
structure GG (n : Nat) (rows : List (List Rat)) (ws : List Rat) (gs : List (List (Rat × Rat))) : Prop where
  n2 : n = 2 ∨ n = 3
  rl : rows.length = n
  rr : ∀ r ∈ rows, r.length = n
  rx : ∀ r ∈ rows, ∀ x ∈ r, 0 ≤ x ∧ x.den ∣ 60
  rs : ∀ r ∈ rows, sumR r = 1
  wl : ws.length = n
  wx : ∀ x ∈ ws, 0 < x ∧ x ≤ 4 ∧ x.den ∣ 1
  wt : ∃ T : Nat, 0 < T ∧ T ≤ 12 ∧ (∀ x ∈ ws, (x / sumR ws).den ∣ T) ∧ sumR ws = ((T : Nat) : Rat)
  gl : gs.length = n
  g : ∀ g ∈ gs, GdG g
  m6 : (standR gs).length ≤ 6
section
variable {n : Nat} {rows : List (List Rat)} {ws : List Rat} {gs : List (List (Rat × Rat))}
theorem mem_stand {s : St3} (gs : List (List (Rat × Rat))) : s ∈ standR gs ↔ s.1 < gs.length ∧ (s.2.1, s.2.2) ∈ gs[s.1]! ∧ 0 < s.2.2 := by
  unfold standR
  rw [List.mem_flatten]
  constructor
  · rintro ⟨l, hl, hs⟩
    obtain ⟨q, hq, rfl⟩ := List.mem_map.mp hl
    unfold standOf at hs
    obtain ⟨p, hp, rfl⟩ := List.mem_map.mp hs
    obtain ⟨hp1, hp2⟩ := List.mem_filter.mp hp
    obtain ⟨i, hi, e⟩ := List.mem_iff_getElem.mp hq
    have hi2 : i < gs.length := by rw [enumN_len] at hi; exact hi
    have := enumN_get (List.getElem?_eq_some_iff.mpr ⟨hi, e⟩)
    have e2 : gs[i] = q.2 := by
      have := this.2
      rw [List.getElem?_eq_getElem hi2] at this
      exact Option.some.inj this
    refine ⟨by rw [this.1]; exact hi2, ?_, by simpa using hp2⟩
    show (p.1, p.2) ∈ gs[q.1]!
    rw [this.1, getElem!_pos gs i hi2, e2]
    exact hp1
  · rintro ⟨h1, h2, h3⟩
    refine ⟨standOf (s.1, gs[s.1]!), List.mem_map.mpr ⟨(s.1, gs[s.1]!), ?_, rfl⟩, ?_⟩
    · unfold enumN
      refine List.mem_map.mpr ⟨(gs[s.1]!, s.1), ?_, rfl⟩
      rw [List.mem_zipIdx_iff_getElem?, getElem!_pos gs _ h1]
      exact List.getElem?_eq_getElem h1
    · unfold standOf
      exact List.mem_map.mpr ⟨(s.2.1, s.2.2), List.mem_filter.mpr ⟨h2, by simpa using h3⟩, rfl⟩
theorem S_flatten {α : Type} {L : List (List α)} {f : α → Rat} : S L.flatten f = S L (fun l => S l f) := by
  induction L with
  | nil => rfl
  | cons l L ih => rw [List.flatten_cons, S_app, S_cons, ih]
theorem S_filter {α : Type} {l : List α} {p : α → Bool} {f : α → Rat} (h : ∀ a ∈ l, p a = false → f a = 0) : S (l.filter p) f = S l f := by
  induction l with
  | nil => rfl
  | cons a l ih =>
    have ih := ih fun b hb => h b (by simp [hb])
    rw [S_cons, List.filter_cons]
    cases e : p a with
    | true => rw [if_pos rfl, S_cons, ih]
    | false =>
      rw [if_neg (by simp), ih, h a (by simp) e]
      grind
/-- sums over standings, by place -/
theorem S_stand (h : ∀ g ∈ gs, GuessP g) (k : Nat → Rat) : S (standR gs) (fun s => k s.1 * s.2.1 * s.2.2) = S (List.range gs.length) k := by
  unfold standR
  rw [S_flatten, S_map]
  have e : S (enumN gs) (fun b => S (standOf b) fun s => k s.1 * s.2.1 * s.2.2) = S (enumN gs) (fun b => k b.1) := by
    refine S_congr fun b hb => ?_
    unfold standOf
    have hg : b.2 ∈ gs := by
      unfold enumN at hb
      obtain ⟨q, hq, rfl⟩ := List.mem_map.mp hb
      exact List.fst_mem_of_mem_zipIdx hq
    rw [S_map]
    show S (b.2.filter fun p => decide (0 < p.2)) (fun p : Rat × Rat => k b.1 * p.1 * p.2) = _
    rw [S_filter]
    · have := (h _ hg).mean
      rw [sumR_S, S_map] at this
      have e2 : S b.2 (fun p : Rat × Rat => k b.1 * p.1 * p.2) = k b.1 * S b.2 (fun p => p.1 * p.2) := by
        rw [← S_mul]; exact S_congr fun p _ => by grind
      rw [e2, this]; grind
    · intro p hp hf
      have h1 := ((h _ hg).part p hp).2
      have h2 : ¬ (0 < p.2) := by simpa using hf
      have : p.2 = 0 := by grind
      rw [this]; grind
  rw [e]
  unfold enumN
  rw [S_map, S_range gs.zipIdx, List.length_zipIdx]
  refine S_congr fun i hi => ?_
  have hi := List.mem_range.mp hi
  rw [getElem!_pos _ i (by simpa using hi), List.getElem_zipIdx]
  simp
theorem S_filter_le {α : Type} {l : List α} {p : α → Bool} {f : α → Rat} (h : ∀ a ∈ l, 0 ≤ f a) : S (l.filter p) f ≤ S l f := by
  induction l with
  | nil => exact Rat.le_refl
  | cons a l ih =>
    have ih := ih fun b hb => h b (by simp [hb])
    have h0 := h a (by simp)
    rw [S_cons, List.filter_cons]
    split
    · rw [S_cons]; grind
    · grind
theorem S_mono {α : Type} {l : List α} {f g : α → Rat} (h : ∀ a ∈ l, f a ≤ g a) : S l f ≤ S l g := by
  induction l with
  | nil => exact Rat.le_refl
  | cons a l ih =>
    have ih := ih fun b hb => h b (by simp [hb])
    have h0 := h a (by simp)
    rw [S_cons, S_cons]; grind
theorem S_standC (h : ∀ g ∈ gs, GuessP g) {k : Nat → Rat} (hk : ∀ i, i < gs.length → 0 ≤ k i) : S (standR gs) (fun s => s.2.1 * k s.1) ≤ S (List.range gs.length) k := by
  unfold standR
  rw [S_flatten, S_map]
  have hm : ∀ b ∈ enumN gs, b.2 ∈ gs ∧ b.1 < gs.length := fun b hb => by
    unfold enumN at hb
    obtain ⟨q, hq, rfl⟩ := List.mem_map.mp hb
    exact ⟨List.fst_mem_of_mem_zipIdx hq, List.snd_lt_of_mem_zipIdx hq⟩
  have e : S (enumN gs) (fun b => S (standOf b) fun s => s.2.1 * k s.1) ≤ S (enumN gs) (fun b => k b.1) := by
    refine S_mono fun b hb => ?_
    obtain ⟨hg, hl⟩ := hm b hb
    unfold standOf
    rw [S_map]
    show S (b.2.filter fun p => decide (0 < p.2)) (fun p : Rat × Rat => p.1 * k b.1) ≤ _
    have hk0 := hk b.1 hl
    have le := S_filter_le (l := b.2) (p := fun p => decide (0 < p.2)) (f := fun p : Rat × Rat => p.1 * k b.1) fun p hp => Rat.mul_nonneg (by have := ((h _ hg).part p hp).1; grind) hk0
    have one := (h _ hg).one
    rw [sumR_S, S_map] at one
    rw [S_mulr (l := b.2), one] at le
    grind
  have e2 : S (enumN gs) (fun b => k b.1) = S (List.range gs.length) k := by
    unfold enumN
    rw [S_map, S_range gs.zipIdx, List.length_zipIdx]
    refine S_congr fun i hi => ?_
    have hi := List.mem_range.mp hi
    rw [getElem!_pos _ i (by simpa using hi), List.getElem_zipIdx]
    simp
  rw [← e2]
  exact e
/-- a standing's mass -/
def mass (ws : List Rat) (a : St3) : Rat := ws[a.1]! * a.2.1 * a.2.2
namespace GG
variable (h : GG n rows ws gs)
include h
theorem n3 : n ≤ 3 := by have := h.n2; omega
theorem n2' : 2 ≤ n := by have := h.n2; omega
theorem row {i : Nat} (hi : i < n) : rows[i]! ∈ rows := get_mem (by rw [h.rl]; exact hi)
theorem cell {i j : Nat} (hi : i < n) (hj : j < n) : (rows[i]!)[j]! ∈ rows[i]! := get_mem (by rw [h.rr _ (h.row hi)]; exact hj)
theorem le1 : ∀ r ∈ rows, ∀ x ∈ r, x ≤ 1 := fun r hr x hx => by
  have := h.rs r hr
  rw [sumR_S] at this
  rw [← this]
  exact S_le (f := fun x => x) (fun y hy => (h.rx r hr y hy).1) hx
theorem cb {i j : Nat} (hi : i < n) (hj : j < n) : 0 ≤ (rows[i]!)[j]! ∧ (rows[i]!)[j]! ≤ 1 ∧ IsF 60 (rows[i]!)[j]! :=
  ⟨(h.rx _ (h.row hi) _ (h.cell hi hj)).1, h.le1 _ (h.row hi) _ (h.cell hi hj), isF_den (h.rx _ (h.row hi) _ (h.cell hi hj)).2⟩
theorem wb {i : Nat} (hi : i < n) : 0 < ws[i]! ∧ ws[i]! ≤ 4 ∧ IsF 1 ws[i]! := by
  have := h.wx _ (get_mem (xs := ws) (i := i) (by rw [h.wl]; exact hi))
  exact ⟨this.1, this.2.1, isF_den this.2.2⟩
theorem sb {s : St3} (hs : s ∈ standR gs) : s.1 < n ∧ (0 < s.2.1 ∧ s.2.1 ≤ 1 ∧ IsF 6 s.2.1) ∧ (0 < s.2.2 ∧ s.2.2 ≤ 2 ∧ IsF 2 s.2.2) := by
  obtain ⟨h1, h2, h3⟩ := (mem_stand gs).mp hs
  have g := h.g _ (get_mem h1)
  have c := g.cf _ h2
  exact ⟨by rw [← h.gl]; exact h1, ⟨(g.gp.part _ h2).1, c.1, isF_den c.2.1⟩, h3, c.2.2.1, isF_den c.2.2.2⟩
theorem hereB {a b : St3} (ha : a ∈ standR gs) (hb : b ∈ standR gs) : 0 ≤ hereR rows ws a b ∧ hereR rows ws a b ≤ 8 ∧ IsF 120 (hereR rows ws a b) := by
  obtain ⟨a1, a2, a3⟩ := h.sb ha
  obtain ⟨b1, b2, b3⟩ := h.sb hb
  have w := h.wb a1
  have c := h.cb a1 b1
  unfold hereR
  have p1 : 0 ≤ ws[a.1]! * a.2.2 := Rat.mul_nonneg (by grind) (by grind)
  have p2 : ws[a.1]! * a.2.2 ≤ 4 * 2 := mul_le' (by grind) w.2.1 (by grind) a3.2.1
  have p3 : ws[a.1]! * a.2.2 * (rows[a.1]!)[b.1]! ≤ 4 * 2 * 1 := mul_le' p1 p2 c.1 c.2.1
  refine ⟨Rat.mul_nonneg p1 c.1, by grind, ?_⟩
  exact (w.2.2.mul a3.2.2).mul c.2.2
theorem flowB {a b : St3} (ha : a ∈ standR gs) (hb : b ∈ standR gs) : 0 ≤ flowR rows ws a b ∧ flowR rows ws a b ≤ 8 ∧ IsF 4320 (flowR rows ws a b) := by
  obtain ⟨a1, a2, a3⟩ := h.sb ha
  obtain ⟨b1, b2, b3⟩ := h.sb hb
  have x := h.hereB ha hb
  have y := h.hereB hb ha
  have z : 0 ≤ (if hereR rows ws a b < hereR rows ws b a then hereR rows ws a b else hereR rows ws b a) ∧ (if hereR rows ws a b < hereR rows ws b a then hereR rows ws a b else hereR rows ws b a) ≤ 8 ∧ IsF 120 (if hereR rows ws a b < hereR rows ws b a then hereR rows ws a b else hereR rows ws b a) := by
    split
    · exact x
    · exact y
  unfold flowR
  generalize (if hereR rows ws a b < hereR rows ws b a then hereR rows ws a b else hereR rows ws b a) = q at *
  have p1 : 0 ≤ a.2.1 * b.2.1 := Rat.mul_nonneg (by grind) (by grind)
  have p2 : a.2.1 * b.2.1 ≤ 1 * 1 := mul_le' (by grind) a2.2.1 (by grind) b2.2.1
  have p3 : a.2.1 * b.2.1 * q ≤ 1 * 1 * 8 := mul_le' p1 p2 z.1 z.2.1
  refine ⟨Rat.mul_nonneg p1 z.1, by grind, ?_⟩
  exact ((a2.2.2.mul b2.2.2).mul z.2.2).up (by decide)
theorem W0 : 0 < sumR ws := by
  rw [sumR_S]
  have h0 : 0 < n := by have := h.n2; omega
  have h1 : 0 < ws[0]! := (h.wb h0).1
  have h2 := S_le (l := ws) (f := fun x => x) (a := ws[0]!) (fun x hx => by have := (h.wx x hx).1; grind) (get_mem (by rw [h.wl]; exact h0))
  grind
theorem WB : sumR ws ≤ 12 ∧ IsF 1 (sumR ws) := by
  rw [sumR_S]
  refine ⟨?_, IsF.S fun x hx => isF_den (h.wx x hx).2.2⟩
  have hb : ∀ l : List Rat, (∀ x ∈ l, x ≤ 4) → l.length ≤ 3 → S l (fun x => x) ≤ 12 := by
    intro l hl h3
    match l, hl, h3 with
    | [], _, _ => rw [S_nil]; decide
    | [a], hl, _ => simp only [S_cons, S_nil]; have := hl a (by simp); grind
    | [a, b], hl, _ => simp only [S_cons, S_nil]; have := hl a (by simp); have := hl b (by simp); grind
    | [a, b, c], hl, _ => simp only [S_cons, S_nil]; have := hl a (by simp); have := hl b (by simp); have := hl c (by simp); grind
    | _ :: _ :: _ :: _ :: _, _, h3 => simp at h3
  exact hb ws (fun x hx => (h.wx x hx).2.1) (by rw [h.wl]; exact h.n3)
theorem shB {x : Rat} (hx : x ∈ sharesR ws) : 0 ≤ x ∧ x ≤ 1 := by
  obtain ⟨w, hw, rfl⟩ := List.mem_map.mp hx
  have W := h.W0
  have hw1 := (h.wx w hw).1
  have hw2 : w ≤ sumR ws := by
    rw [sumR_S]
    exact S_le (f := fun x => x) (fun y hy => by have := (h.wx y hy).1; grind) hw
  have i1 := Rat.mul_inv_cancel (sumR ws) (by grind)
  have i2 : 0 ≤ (sumR ws)⁻¹ := by
    have := Rat.inv_pos (a := sumR ws)
    grind
  rw [Rat.div_def]
  refine ⟨Rat.mul_nonneg (by grind) i2, ?_⟩
  rw [← i1]
  exact Rat.mul_le_mul_of_nonneg_right hw2 i2
theorem shS : S (List.range n) (fun i => (sharesR ws)[i]!) = 1 := by
  have e : S (sharesR ws) (fun x => x) = 1 := by
    unfold sharesR
    rw [S_map]
    have : S ws (fun b => b / sumR ws) = S ws (fun b => b) * (sumR ws)⁻¹ := by
      rw [← S_mulr]
      exact S_congr fun x _ => Rat.div_def _ _
    rw [this, ← sumR_S]
    exact Rat.mul_inv_cancel _ (by have := h.W0; grind)
  rw [S_range, sharesR_len, h.wl] at e
  exact e
theorem sh_at {p : Nat} (hp : p < n) : (sharesR ws)[p]! = ws[p]! / sumR ws ∧ (sharesR ws)[p]! ∈ sharesR ws := by
  have h1 : p < ws.length := by rw [h.wl]; exact hp
  have h2 : p < (sharesR ws).length := by rw [sharesR_len]; exact h1
  refine ⟨?_, get_mem h2⟩
  rw [getElem!_pos _ p h2, getElem!_pos ws p h1]
  simp [sharesR]
theorem gfB {T : Nat} (hT : ∀ x ∈ ws, (x / sumR ws).den ∣ T) {s : St3} (hs : s ∈ standR gs) {p : Nat} (hp : p < n) : Bt 8 (gf ws p s) ∧ IsF (12 * T) (gf ws p s) := by
  obtain ⟨a1, a2, a3⟩ := h.sb hs
  have w := h.wb a1
  obtain ⟨e, hm⟩ := h.sh_at hp
  have sB := h.shB hm
  have p1 : 0 ≤ ws[s.1]! * s.2.1 := Rat.mul_nonneg (by grind) (by grind)
  have p2 : ws[s.1]! * s.2.1 ≤ 4 * 1 := mul_le' (by grind) w.2.1 (by grind) a2.2.1
  have p3 : 0 ≤ ws[s.1]! * s.2.1 * s.2.2 := Rat.mul_nonneg p1 (by grind)
  have p4 : ws[s.1]! * s.2.1 * s.2.2 ≤ 4 * 1 * 2 := mul_le' p1 p2 (by grind) a3.2.1
  have dF : IsF T (sharesR ws)[p]! := by rw [e]; exact isF_den (hT _ (get_mem (by rw [h.wl]; exact hp)))
  have q : IsF (12 * T) (gf ws p s) := by
    unfold gf
    refine ((w.2.2.mul a2.2.2).mul a3.2.2).mul (IsF.sub ?_ dF)
    split
    · exact isF_1 T
    · exact isF_0 T
  refine ⟨?_, q⟩
  unfold gf
  generalize ws[s.1]! * s.2.1 * s.2.2 = u at *
  generalize (sharesR ws)[p]! = v at *
  have d : -1 ≤ (if s.1 = p then (1 : Rat) else 0) - v ∧ (if s.1 = p then (1 : Rat) else 0) - v ≤ 1 := by
    split <;> constructor <;> grind
  generalize (if s.1 = p then (1 : Rat) else 0) - v = d' at *
  have b1 : u * d' ≤ u * 1 := Rat.mul_le_mul_of_nonneg_left d.2 p3
  have b2 : u * (-1) ≤ u * d' := Rat.mul_le_mul_of_nonneg_left d.1 p3
  unfold Bt
  have e84 : ((8 : Nat) : Rat) = 8 := rfl
  rw [e84]
  constructor <;> grind
/-- no more flows out of a standing than its mass -/
theorem out_le {a : St3} (ha : a ∈ standR gs) : S (standR gs) (fun b => flowR rows ws a b) ≤ mass ws a ∧ 0 < mass ws a ∧ mass ws a ≤ 8 := by
  obtain ⟨a1, a2, a3⟩ := h.sb ha
  have w := h.wb a1
  have p1 : 0 < ws[a.1]! * a.2.1 := Rat.mul_pos w.1 a2.1
  have p2 : ws[a.1]! * a.2.1 ≤ 4 * 1 := mul_le' (by grind) w.2.1 (by grind) a2.2.1
  have p3 : 0 < mass ws a := Rat.mul_pos p1 a3.1
  have p4 : mass ws a ≤ 4 * 1 * 2 := mul_le' (by grind) p2 (by grind) a3.2.1
  refine ⟨?_, p3, by grind⟩
  have le1 : S (standR gs) (fun b => flowR rows ws a b) ≤ S (standR gs) (fun b => mass ws a * (b.2.1 * (rows[a.1]!)[b.1]!)) := by
    refine S_mono fun b hb => ?_
    obtain ⟨b1, b2, b3⟩ := h.sb hb
    have c0 : 0 ≤ a.2.1 * b.2.1 := Rat.mul_nonneg (by grind) (by grind)
    have m : (if hereR rows ws a b < hereR rows ws b a then hereR rows ws a b else hereR rows ws b a) ≤ hereR rows ws a b := by
      split <;> grind
    unfold flowR
    have := Rat.mul_le_mul_of_nonneg_left m c0
    have e : mass ws a * (b.2.1 * (rows[a.1]!)[b.1]!) = a.2.1 * b.2.1 * hereR rows ws a b := by
      unfold mass hereR; grind
    rw [e]; exact this
  rw [S_mul] at le1
  have le2 := S_standC (gs := gs) (fun g hg => (h.g g hg).gp) (k := fun q => (rows[a.1]!)[q]!) (fun q hq => (h.cb a1 (by rw [← h.gl]; exact hq)).1)
  have e1 : S (List.range gs.length) (fun q => (rows[a.1]!)[q]!) = 1 := by
    have := h.rs _ (h.row a1)
    rw [sumR_S, S_range, h.rr _ (h.row a1)] at this
    rw [h.gl]
    exact this
  rw [e1] at le2
  have := Rat.mul_le_mul_of_nonneg_left le2 (show 0 ≤ mass ws a by grind)
  grind
end GG
end
end Gw
/-! Plain: what guessed_table asks holds of a guessed walk. -/
namespace Gw
section
variable {n : Nat} {rows : List (List Rat)} {ws : List Rat} {gs : List (List (Rat × Rat))}
theorem natAbs_whole {xs : List Rat} {D B : Nat} (hD : 0 < D) (hd : ∀ x ∈ xs, x.den ∣ D) (hb : ∀ x ∈ xs, Bt B x) : ∀ y ∈ wholesL xs, y.natAbs ≤ B * D := by
  intro y hy
  obtain ⟨x, hx, rfl⟩ := List.mem_map.mp hy
  obtain ⟨c, hc⟩ := den_dvd_lcmD hx
  have hl := Nat.le_of_dvd hD (lcmD_dvd hd)
  have hp := x.den_pos
  rw [hc, Int.natCast_mul, Int.mul_fdiv_cancel_left _ (by omega), Int.natAbs_mul, Int.natAbs_natCast]
  calc x.num.natAbs * c ≤ B * x.den * c := Nat.mul_le_mul_right _ (hb x hx).num
    _ = B * lcmD xs := by rw [hc, Nat.mul_assoc]
    _ ≤ B * D := Nat.mul_le_mul_left _ hl
namespace GG
variable (h : GG n rows ws gs)
include h
theorem has {p : Nat} (hp : p < n) : ∃ i, i < (standR gs).length ∧ ((standR gs)[i]!).1 = p := by
  have hg := h.g _ (get_mem (xs := gs) (i := p) (by rw [h.gl]; exact hp))
  have : ∃ q ∈ gs[p]!, 0 < q.2 := by
    by_cases e : ∃ q ∈ gs[p]!, 0 < q.2
    · exact e
    · exfalso
      have m := hg.gp.mean
      rw [sumR_S, S_map, S_zero'] at m
      · revert m; decide
      · intro q hq
        have h1 := (hg.gp.part q hq).2
        have h2 : ¬ 0 < q.2 := fun k => e ⟨q, hq, k⟩
        have : q.2 = 0 := by grind
        rw [this]; grind
  obtain ⟨q, hq, hv⟩ := this
  have hm : (p, q.1, q.2) ∈ standR gs := (mem_stand gs).mpr ⟨by rw [h.gl]; exact hp, hq, hv⟩
  obtain ⟨i, hi, e⟩ := List.mem_iff_getElem.mp hm
  exact ⟨i, hi, by rw [getElem!_pos _ i hi, e]⟩
theorem m0 : 0 < (standR gs).length := by
  obtain ⟨i, hi, _⟩ := h.has (p := 0) (by have := h.n2; omega)
  omega
theorem fpos {a b : St3} (ha : a ∈ standR gs) (hb : b ∈ standR gs) (h1 : 0 < (rows[a.1]!)[b.1]!) (h2 : 0 < (rows[b.1]!)[a.1]!) : 0 < flowR rows ws a b := by
  have key : ∀ {a b : St3}, a ∈ standR gs → b ∈ standR gs → 0 < (rows[a.1]!)[b.1]! → 0 < hereR rows ws a b := fun {a b} ha hb h1 => by
    obtain ⟨a1, a2, a3⟩ := h.sb ha
    have w := h.wb a1
    unfold hereR
    exact Rat.mul_pos (Rat.mul_pos w.1 a3.1) h1
  have x := key ha hb h1
  have y := key hb ha h2
  unfold flowR
  refine Rat.mul_pos (Rat.mul_pos (h.sb ha).2.1.1 (h.sb hb).2.1.1) ?_
  split
  · exact x
  · exact y
theorem conn (c : Conn2 rows) : Conn (flowsR rows ws (standR gs)) := by
  intro T h0 hcl
  have ml : (flowsR rows ws (standR gs)).length = (standR gs).length := flowsR_len _ _ _
  rw [ml] at hcl ⊢
  have hn := h.n2'
  have st : ∀ i, i < (standR gs).length → (standR gs)[i]! ∈ standR gs := fun i hi => get_mem hi
  have go : ∀ i j, T i → i < (standR gs).length → j < (standR gs).length → ((standR gs)[i]!).1 ≠ ((standR gs)[j]!).1 → 0 < (rows[((standR gs)[i]!).1]!)[((standR gs)[j]!).1]! → 0 < (rows[((standR gs)[j]!).1]!)[((standR gs)[i]!).1]! → T j := fun i j ti hi hj hne q1 q2 => by
    refine hcl i j ti hi hj ?_
    have := flowsR_at (rows := rows) (ws := ws) hi hj
    unfold fF at this
    rw [this, if_neg (fun e => hne (by rw [e]))]
    exact h.fpos (st i hi) (st j hj) q1 q2
  have nb : ∀ p, p < n → ∃ q, q < n ∧ q ≠ p ∧ 0 < (rows[p]!)[q]! ∧ 0 < (rows[q]!)[p]! := fun p hp => by
    by_cases e : ∃ q, q < n ∧ q ≠ p ∧ 0 < (rows[p]!)[q]! ∧ 0 < (rows[q]!)[p]!
    · exact e
    · exfalso
      by_cases p0 : p = 0
      · have := c (fun x => x = 0) rfl (fun i j hi hil hjl a b => by
          show j = 0
          have hi : i = 0 := hi
          subst hi
          by_cases q : j = 0
          · exact q
          · exact absurd ⟨j, by rw [← h.rl]; exact hjl, by omega, by rw [p0]; exact a, by rw [p0]; exact b⟩ e) 1 (by rw [h.rl]; omega)
        exact absurd this (by decide)
      · have := c (fun x => x ≠ p) (fun q => p0 q.symm) (fun i j hi hil hjl a b => by
          show j ≠ p
          intro q
          subst q
          exact e ⟨i, by rw [← h.rl]; exact hil, hi, b, a⟩) p (by rw [h.rl]; exact hp)
        exact this rfl
  let All (p : Nat) : Prop := ∀ i, i < (standR gs).length → ((standR gs)[i]!).1 = p → T i
  have s1 : ∀ p q, p < n → q < n → p ≠ q → 0 < (rows[p]!)[q]! → 0 < (rows[q]!)[p]! → All p → All q := fun p q hp hq hne a b hA j hj e => by
    obtain ⟨i, hi, ei⟩ := h.has hp
    exact go i j (hA i hi ei) hi hj (by rw [ei, e]; exact hne) (by rw [ei, e]; exact a) (by rw [ei, e]; exact b)
  have m0 := h.m0
  have pl : ∀ i, i < (standR gs).length → ((standR gs)[i]!).1 < n := fun i hi => (h.sb (st i hi)).1
  have base : All ((standR gs)[0]!).1 := fun j hj e => by
    obtain ⟨q, hq, hne, a, b⟩ := nb _ (pl 0 m0)
    obtain ⟨k, hk, ek⟩ := h.has hq
    have tk : T k := go 0 k h0 m0 hk (by rw [ek]; exact fun z => hne z.symm) (by rw [ek]; exact a) (by rw [ek]; exact b)
    exact go k j tk hk hj (by rw [ek, e]; exact hne) (by rw [ek, e]; exact b) (by rw [ek, e]; exact a)
  have all := c (fun p => All 0 ↔ All p) Iff.rfl (fun i j hi hil hjl a b => by
    rw [h.rl] at hil hjl
    by_cases e : i = j
    · rw [← e]; exact hi
    · exact hi.trans ⟨s1 i j hil hjl e a b, s1 j i hjl hil (fun z => e z.symm) b a⟩)
  rw [h.rl] at all
  have a0 : All 0 := (all _ (pl 0 m0)).mpr base
  exact fun i hi => (all _ (pl i hi)).mp a0 i hi rfl
theorem goal0 {p : Nat} (hp : p < n) : sumR (goalsR ws (standR gs))[p]! = 0 := by
  rw [goalsR_at (by rw [h.wl]; exact hp), sumR_S, S_map]
  have e : S (standR gs) (fun s => gf ws p s) = S (standR gs) (fun s => (ws[s.1]! * ((if s.1 = p then (1 : Rat) else 0) - (sharesR ws)[p]!)) * s.2.1 * s.2.2) := S_congr fun s _ => by unfold gf; grind
  rw [e, S_stand (fun g hg => (h.g g hg).gp) (fun i => ws[i]! * ((if i = p then (1 : Rat) else 0) - (sharesR ws)[p]!)), h.gl]
  have e2 : S (List.range n) (fun i => ws[i]! * ((if i = p then (1 : Rat) else 0) - (sharesR ws)[p]!)) = S (List.range n) (fun i => if i = p then ws[p]! else 0) - S (List.range n) (fun i => ws[i]!) * (sharesR ws)[p]! := by
    rw [← S_mulr, ← S_sub]
    refine S_congr fun i _ => ?_
    by_cases q : i = p
    · rw [if_pos q, if_pos q, q]; grind
    · rw [if_neg q, if_neg q]; grind
  have e3 : S (List.range n) (fun i => ws[i]!) = sumR ws := by rw [sumR_S, S_range ws, h.wl]
  rw [e2, S_one (i := p) hp fun k _ hk => if_neg hk, if_pos rfl, e3, (h.sh_at hp).1, Rat.div_def]
  have := Rat.mul_inv_cancel (sumR ws) (by have := h.W0; grind)
  grind
theorem net (c : Conn2 rows) : Net (flowsR rows ws (standR gs)) (goalsR ws (standR gs)) := by
  have ml : (flowsR rows ws (standR gs)).length = (standR gs).length := flowsR_len _ _ _
  have st : ∀ i, i < (standR gs).length → (standR gs)[i]! ∈ standR gs := fun i hi => get_mem hi
  refine ⟨by rw [ml]; exact h.m0, flowsR_row, fun i j hi hj => ?_, fun i j hi hj => ?_, fun i hi => ?_, h.conn c, fun g hg => ?_, fun g hg => ?_⟩
  · rw [ml] at hi hj
    have e1 := flowsR_at (rows := rows) (ws := ws) hi hj
    have e2 := flowsR_at (rows := rows) (ws := ws) hj hi
    unfold fF at e1 e2
    rw [e1, e2]
    by_cases q : i = j
    · rw [if_pos q, if_pos q.symm]
    · rw [if_neg q, if_neg fun k => q k.symm, flowR_sym]
  · rw [ml] at hi hj
    have e1 := flowsR_at (rows := rows) (ws := ws) hi hj
    unfold fF at e1
    rw [e1]
    split
    · exact Rat.le_refl
    · exact (h.flowB (st i hi) (st j hj)).1
  · rw [ml] at hi
    have e1 := flowsR_at (rows := rows) (ws := ws) hi hi
    unfold fF at e1
    rw [e1, if_pos rfl]
  · obtain ⟨p, hp, rfl⟩ := List.mem_iff_getElem.mp hg
    rw [goalsR_len] at hp
    rw [← getElem!_pos (goalsR ws (standR gs)) p (by rw [goalsR_len]; exact hp), goalsR_at hp, List.length_map, ml]
  · obtain ⟨p, hp, rfl⟩ := List.mem_iff_getElem.mp hg
    rw [goalsR_len] at hp
    rw [← getElem!_pos (goalsR ws (standR gs)) p (by rw [goalsR_len]; exact hp)]
    exact h.goal0 (by rw [← h.wl]; exact hp)
/-! ### sizes of the rows -/
theorem flowSz : ∀ r ∈ flowsR rows ws (standR gs), ∀ x ∈ r, 0 ≤ x ∧ x ≤ 8 ∧ IsF 4320 x := by
  intro r hr x hx
  unfold flowsR at hr
  obtain ⟨p, hp, rfl⟩ := List.mem_map.mp hr
  obtain ⟨q, hq, rfl⟩ := List.mem_map.mp hx
  split
  · exact ⟨Rat.le_refl, by decide, isF_0 _⟩
  · exact h.flowB (List.fst_mem_of_mem_zipIdx hp) (List.fst_mem_of_mem_zipIdx hq)
theorem sz30 : ∀ r ∈ flowsR rows ws (standR gs), ∀ x ∈ r, Sz 30 x := fun r hr x hx => by
  obtain ⟨a, b, c⟩ := h.flowSz r hr x hx
  exact sz_of c (Bt.of (B := 8) a b) (by decide) (by decide) (by decide)
theorem rowSz {T : Nat} (hT : ∀ x ∈ ws, (x / sumR ws).den ∣ T) {i : Nat} (hi : i < (standR gs).length) : ∀ x ∈ lapRow (flowsR rows ws (standR gs))[i]! i (goalsR ws (standR gs)), Bt 8 x ∧ IsF (4320 * T) x := by
  intro x hx
  have ml : (flowsR rows ws (standR gs)).length = (standR gs).length := flowsR_len _ _ _
  have hr : (flowsR rows ws (standR gs))[i]! ∈ flowsR rows ws (standR gs) := get_mem (by rw [ml]; exact hi)
  have rl := flowsR_row _ hr
  rw [ml] at rl
  obtain ⟨j, hj, e⟩ := List.mem_iff_getElem.mp hx
  rw [lapRow_len, rl, goalsR_len, h.wl] at hj
  rw [← getElem!_pos (lapRow (flowsR rows ws (standR gs))[i]! i (goalsR ws (standR gs))) j (by rw [lapRow_len, rl, goalsR_len, h.wl]; exact hj)] at e
  have m6 := h.m6
  have e504 : ((8 : Nat) : Rat) = 8 := rfl
  by_cases q : j < (standR gs).length
  · rw [lapRow_lo (by rw [rl]; exact q)] at e
    by_cases q2 : j = i
    · rw [if_pos q2, sumR_S] at e
      subst e
      have s0 := S_nonneg (l := (flowsR rows ws (standR gs))[i]!) (f := fun x => x) fun y hy => (h.flowSz _ hr y hy).1
      have o := h.out_le (a := (standR gs)[i]!) (get_mem hi)
      have s1 : S (flowsR rows ws (standR gs))[i]! (fun x => x) ≤ S (standR gs) (fun b => flowR rows ws (standR gs)[i]! b) := by
        rw [S_range, rl, S_range (standR gs)]
        refine S_mono fun j hj => ?_
        have hj := List.mem_range.mp hj
        have := flowsR_at (rows := rows) (ws := ws) hi hj
        unfold fF at this
        rw [this]
        split
        · exact (h.flowB (get_mem hi) (get_mem hj)).1
        · exact Rat.le_refl
      refine ⟨Bt.of s0 (by rw [e504]; grind), (IsF.S fun y hy => (h.flowSz _ hr y hy).2.2).up (Nat.dvd_mul_right _ _)⟩
    · rw [if_neg q2] at e
      subst e
      have hm : ((flowsR rows ws (standR gs))[i]!)[j]! ∈ (flowsR rows ws (standR gs))[i]! := get_mem (by rw [rl]; exact q)
      obtain ⟨a, b, c⟩ := h.flowSz _ hr _ hm
      refine ⟨⟨by rw [e504]; grind, by rw [e504]; grind⟩, ((isF_0 _).sub c).up (Nat.dvd_mul_right _ _)⟩
  · have hk : j - (standR gs).length < ws.length := by rw [h.wl]; omega
    have eh := lapRow_hi (f := (flowsR rows ws (standR gs))[i]!) (i := i) (goals := goalsR ws (standR gs)) (k := j - (standR gs).length) (by rw [goalsR_len]; exact hk)
    rw [rl, show (standR gs).length + (j - (standR gs).length) = j by omega] at eh
    rw [eh, goalsR_at2 hk hi] at e
    subst e
    obtain ⟨b, f⟩ := h.gfB hT (s := (standR gs)[i]!) (get_mem hi) (p := j - (standR gs).length) (by rw [← h.wl]; exact hk)
    have e84 : ((8 : Nat) : Rat) = 8 := rfl
    refine ⟨⟨?_, ?_⟩, f.up (Nat.mul_dvd_mul_right (by decide) T)⟩
    · have := b.1; rw [e84] at this; rw [e504]; grind
    · have := b.2; rw [e84] at this; rw [e504]; grind
theorem rect : Rect ((standR gs).length + n) 19 (lapA (flowsR rows ws (standR gs)) (goalsR ws (standR gs))) ∧ ∀ x ∈ lapRows (flowsR rows ws (standR gs)) (goalsR ws (standR gs)), WhP x ∧ x.length = (standR gs).length + n := by
  obtain ⟨T, T0, T12, hT, _⟩ := h.wt
  have ml : (flowsR rows ws (standR gs)).length = (standR gs).length := flowsR_len _ _ _
  have hr : ∀ x ∈ lapRows (flowsR rows ws (standR gs)) (goalsR ws (standR gs)), x.length = (standR gs).length + n ∧ ∀ e ∈ x, Bt 8 e ∧ IsF (4320 * T) e := by
    intro x hx
    obtain ⟨i, hi, rfl⟩ := List.mem_iff_getElem.mp hx
    rw [lapRows_len] at hi
    rw [← getElem!_pos (lapRows _ _) i (by rw [lapRows_len]; exact hi), lapRows_at hi]
    rw [ml] at hi
    refine ⟨?_, h.rowSz hT hi⟩
    rw [lapRow_len, flowsR_row _ (get_mem (by rw [ml]; exact hi)), ml, goalsR_len, h.wl]
  have D0 : 0 < 4320 * T := by omega
  have DB : 8 * (4320 * T) < 2 ^ 19 := by
    have : (2 : Nat) ^ 19 = 524288 := by decide
    omega
  refine ⟨⟨fun r hr2 => ?_, fun r hr2 => ?_⟩, fun x hx => ⟨⟨4320 * T, D0, ?_, fun e he => ⟨((hr x hx).2 e he).2.den D0, ?_⟩⟩, (hr x hx).1⟩⟩
  · obtain ⟨x, hx, rfl⟩ := List.mem_map.mp hr2
    rw [wholesL_len]
    exact (hr x hx).1
  · obtain ⟨x, hx, rfl⟩ := List.mem_map.mp hr2
    intro y hy
    exact Nat.lt_of_le_of_lt (natAbs_whole D0 (fun e he => ((hr x hx).2 e he).2.den D0) (fun e he => ((hr x hx).2 e he).1) y hy) DB
  · exact Nat.lt_of_lt_of_le (show 4320 * T < 2 ^ 19 by omega) (Nat.pow_le_pow_right (by omega) (by omega))
  · obtain ⟨b, f⟩ := (hr x hx).2 e he
    refine Nat.lt_of_le_of_lt b.num ?_
    have := Nat.le_of_dvd D0 (f.den D0)
    refine Nat.lt_of_lt_of_le (show 8 * e.den < 2 ^ 19 by omega) (Nat.pow_le_pow_right (by omega) (by omega))
theorem steps (c : Conn2 rows) : (int_stepsR (lapA (flowsR rows ws (standR gs)) (goalsR ws (standR gs)))).length ≤ 5 ∧ ∀ r ∈ int_stepsR (lapA (flowsR rows ws (standR gs)) (goalsR ws (standR gs))), Bd 639 r ∧ r.length = (standR gs).length + n ∧ headOf r < (standR gs).length ∧ vv r (headOf r) ≠ 0 := by
  have N := h.net c
  have ml : (flowsR rows ws (standR gs)).length = (standR gs).length := flowsR_len _ _ _
  have m6 := h.m6
  have m0 := h.m0
  obtain ⟨e, E⟩ := N.ended
  have few := E.few
  rw [ml] at few
  refine ⟨by omega, fun r hr => ⟨?_, ?_, ?_, (E.hd r hr).2⟩⟩
  · have ok := stepsTo_ok (b := 19) h.rect.1 (flowsR rows ws (standR gs)).length.pred (by rw [ml]; show (standR gs).length - 1 ≤ _; omega)
    have hb := ok.f.bd
    have e2 : (flowsR rows ws (standR gs)).length.pred = (flowsR rows ws (standR gs)).length - 1 := rfl
    rw [e2, ← e] at hb
    refine (hb r hr).mono ?_
    have : bits 19 (int_stepsR (lapA (flowsR rows ws (standR gs)) (goalsR ws (standR gs)))).length ≤ bits 19 5 := bits_mono (by omega)
    have b5 : bits 19 5 = 639 := by decide
    omega
  · rw [E.len r hr, ml, goalsR_len, h.wl]
  · have := (E.hd r hr).1
    rw [ml] at this
    omega
end GG
end
end Gw
/-! Plain: what guessed_table asks, all of it. -/
namespace Gw
theorem Sz.divInt {n : Nat} {a b : Int} (ha : a.natAbs < 2 ^ n) (hb : b.natAbs < 2 ^ n) (h : b ≠ 0) : Sz n (Rat.divInt a b) := ⟨Nat.lt_of_le_of_lt (num_le a b h) ha, Nat.lt_of_le_of_lt (den_le a b h) hb⟩
theorem told_sz {k : Nat} {r : List Int} (h : Bd k r) (h0 : vv r (headOf r) ≠ 0) : ∀ x ∈ told_rowR r, Sz k x := by
  intro x hx
  obtain ⟨y, hy, rfl⟩ := List.mem_map.mp hx
  have hl := vv_lt h0
  exact Sz.divInt (h y hy) (h.get hl) (fun q => h0 (vv_zero.mpr q))
theorem fold_all {P : Rat → Prop} {n k : Nat} : ∀ {rows : List (List Rat)} {l : List Rat}, (∀ x ∈ l, P x) → (∀ r ∈ rows, P (r[n + k]!)) → ∀ x ∈ rows.foldl (fun l row => l.set (headQ row) (row[n + k]!)) l, P x
  | [], l, hl, _ => hl
  | r :: rs, l, hl, hr => by
    rw [List.foldl_cons]
    refine fold_all (fun x hx => ?_) (fun q hq => hr q (by simp [hq]))
    rcases List.mem_or_eq_of_mem_set hx with q | q
    · exact hl x q
    · rw [q]; exact hr r (by simp)
section
variable {n : Nat} {rows : List (List Rat)} {ws : List Rat} {gs : List (List (Rat × Rat))}
namespace GG
variable (h : GG n rows ws gs)
include h
theorem ah (c : Conn2 rows) : AhP (flowsR rows ws (standR gs)) (goalsR ws (standR gs)) := by
  have ml : (flowsR rows ws (standR gs)).length = (standR gs).length := flowsR_len _ _ _
  have gl : (goalsR ws (standR gs)).length = n := by rw [goalsR_len, h.wl]
  have m6 := h.m6
  have n3 := h.n3
  obtain ⟨R, W⟩ := h.rect
  obtain ⟨s5, st⟩ := h.steps c
  have N := h.net c
  refine ⟨by omega, flowsR_row, fun r hr => ?_, fun r hr x hx => ?_, by omega, N.gr, ⟨fun x hx => ⟨(W x hx).1, by rw [(W x hx).2]; omega⟩, by rw [lapRows_len]; omega, ⟨_, 19, R, ?_, by omega, ?_⟩, ?_, ?_⟩, fun row hr => ?_, ?_⟩
  · have rl := flowsR_row r hr
    exact FitsL.zero (n := 30) (h.sz30 r hr) (by rw [rl, ml]; omega)
  · exact sz0.fits (h.sz30 r hr x hx) (by decide)
  · have : ((lapRows (flowsR rows ws (standR gs)) (goalsR ws (standR gs))).map wholesL).length ≤ 6 := by rw [List.length_map, lapRows_len]; omega
    have b := bits_mono (b := 19) this
    have b6 : bits 19 6 = 1279 := by decide
    omega
  · show (List.map _ _).length ≤ 100
    rw [List.length_map, lapRows_len]; omega
  · show (int_stepsR (lapA _ _)).length ≤ 1000
    omega
  · intro r hr
    obtain ⟨b, l, hd, _⟩ := st r hr
    exact ⟨by omega, b.mono (by decide), by omega⟩
  · unfold steps_ofR at hr
    obtain ⟨r, hr2, rfl⟩ := List.mem_map.mp hr
    obtain ⟨b, l, hd, h0⟩ := st r hr2
    rw [told_len, told_head h0, l, gl, ml]
    exact ⟨rfl, hd⟩
  · unfold steps_ofR
    rw [List.length_map]
    show (int_stepsR (lapA _ _)).length ≤ 1000
    omega
theorem aheadSz (c : Conn2 rows) {q : Nat} (hq : q < n) : ∀ x ∈ (aheadsR (flowsR rows ws (standR gs)) (goalsR ws (standR gs)))[q]!, Sz 639 x := by
  have gl : (goalsR ws (standR gs)).length = n := by rw [goalsR_len, h.wl]
  have ml : (flowsR rows ws (standR gs)).length = (standR gs).length := flowsR_len _ _ _
  obtain ⟨s5, st⟩ := h.steps c
  rw [getElem!_pos _ q (by rw [aheadsR_len, gl]; exact hq)]
  unfold aheadsR
  rw [List.getElem_map, List.getElem_range]
  unfold aheadOf
  refine fold_all (fun x hx => ?_) fun r hr => ?_
  · rw [List.eq_of_mem_replicate hx]
    exact sz0.mono (by decide)
  · unfold steps_ofR at hr
    obtain ⟨r, hr2, rfl⟩ := List.mem_map.mp hr
    obtain ⟨b, l, hd, h0⟩ := st r hr2
    exact told_sz b h0 _ (get_mem (by rw [told_len, l, ml]; omega))
theorem wSz : ∀ x ∈ ws, Sz 10 x := fun x hx => by
  obtain ⟨a, b, c⟩ := h.wx x hx
  exact sz_of (isF_den c) (Bt.of (B := 4) (by grind) b) (by decide) (by decide) (by decide)
theorem WSz : Sz 10 (sumR ws) := sz_of h.WB.2 (Bt.of (B := 12) (by have := h.W0; grind) h.WB.1) (by decide) (by decide) (by decide)
theorem shSz : ∀ x ∈ sharesR ws, Sz 4 x := fun x hx => by
  obtain ⟨T, T0, T12, hT, _⟩ := h.wt
  have b := h.shB hx
  obtain ⟨w, hw, rfl⟩ := List.mem_map.mp hx
  exact sz_of (isF_den (hT w hw)) (Bt.of (B := 1) b.1 b.2) T0 (by show T < 16; omega) (by show 1 * T < 16; omega)
theorem gSz {p : Nat} (hp : p < n) : ∀ x ∈ (goalsR ws (standR gs))[p]!, Sz 20 x := by
  obtain ⟨T, T0, T12, hT, _⟩ := h.wt
  intro x hx
  rw [goalsR_at (by rw [h.wl]; exact hp)] at hx
  obtain ⟨s, hs, rfl⟩ := List.mem_map.mp hx
  obtain ⟨b, f⟩ := h.gfB hT hs hp
  have e : (2 : Nat) ^ 20 = 1048576 := by decide
  exact sz_of f b (by omega) (by omega) (by omega)
theorem tb (c : Conn2 rows) : TbP ws (standR gs) (flowsR rows ws (standR gs)) := by
  have n3 := h.n3
  have m6 := h.m6
  have wl := h.wl
  have W0 : sumR ws ≠ 0 := by have := h.W0; grind
  have wS := h.wSz
  have WS := h.WSz
  have shS := h.shSz
  have sS : ∀ s ∈ standR gs, Sz 10 s.2.1 ∧ Sz 10 s.2.2 := fun s hs => by
    obtain ⟨_, a, b⟩ := h.sb hs
    exact ⟨sz_of a.2.2 (Bt.of (B := 1) (by grind) a.2.1) (by decide) (by decide) (by decide), sz_of b.2.2 (Bt.of (B := 2) (by grind) b.2.1) (by decide) (by decide) (by decide)⟩
  have wA : ∀ s ∈ standR gs, Sz 10 ws[s.1]! := fun s hs => wS _ (get_mem (by rw [wl]; exact (h.sb hs).1))
  have iS : ∀ i : Int, i = 0 ∨ i = 1 → Sz 2 (i : Rat) := fun i hi => Sz.int (by decide) (by rcases hi with q | q <;> rw [q] <;> decide)
  have prS : ∀ p q : Nat, p < ws.length → q < ws.length → ∀ x ∈ (((goalsR ws (standR gs))[p]!).zip ((aheadsR (flowsR rows ws (standR gs)) (goalsR ws (standR gs)))[q]!)).map fun x => x.1 * x.2, Sz 659 x := fun p q hp hq x hx => by
    obtain ⟨y, hy, rfl⟩ := List.mem_map.mp hx
    obtain ⟨y1, y2⟩ := List.of_mem_zip hy
    exact (h.gSz (by rw [← wl]; exact hp) _ y1).mul (h.aheadSz c (by rw [← wl]; exact hq) _ y2)
  have prL : ∀ p q : Nat, p < ws.length → q < ws.length → ((((goalsR ws (standR gs))[p]!).zip ((aheadsR (flowsR rows ws (standR gs)) (goalsR ws (standR gs)))[q]!)).map fun x => x.1 * x.2).length ≤ 6 := fun p q hp hq => by
    rw [List.length_map, List.length_zip, goalsR_at hp, List.length_map]
    omega
  have smS : ∀ p q : Nat, p < ws.length → q < ws.length → Sz 7225 (sumR ((((goalsR ws (standR gs))[p]!).zip ((aheadsR (flowsR rows ws (standR gs)) (goalsR ws (standR gs)))[q]!)).map fun x => x.1 * x.2)) := fun p q hp hq => by
    have := prL p q hp hq
    exact (sz_sumR (prS p q hp hq)).mono (by omega)
  have boS : ∀ p q : Nat, p < ws.length → q < ws.length → Sz 7235 (bothR ws (goalsR ws (standR gs))[p]! (aheadsR (flowsR rows ws (standR gs)) (goalsR ws (standR gs)))[q]!) := fun p q hp hq => (smS p q hp hq).div WS W0
  have shA : ∀ p, p < ws.length → Sz 4 (sharesR ws)[p]! := fun p hp => shS _ (get_mem (by rw [sharesR_len]; exact hp))
  refine ⟨by omega, by omega, fun s hs => by rw [wl]; exact (h.sb hs).1, FitsL.zero wS (by omega), fun x hx => (wS x hx).fitsO WS W0 (by decide), fun s hs => (wA s hs).fits (sS s hs).1 (by decide), fun s hs => ((wA s hs).mul (sS s hs).1).fits (sS s hs).2 (by decide), fun x hx i hi => (shS x hx).fits (iS i hi) (by decide), fun s hs x hx i hi => (((wA s hs).mul (sS s hs).1).mul (sS s hs).2).fits ((iS i hi).sub (shS x hx)) (by decide), h.ah c, fun p q hp hq x hx => ?_, fun p q hp hq => ?_, fun p q hp hq => (smS p q hp hq).fitsO WS W0 (by decide), fun p q hp hq => (boS p q hp hq).fits (Sz.int (n := 2) (by decide) (by decide)) (by decide), fun x hx y hy i hi => (shS x hx).fits ((iS i hi).sub (shS y hy)) (by decide), fun p q hp hq i hi => ((boS p q hp hq).mul (Sz.int (n := 2) (by decide) (by decide))).fits ((shA p hp).mul ((iS i hi).sub (shA q hq))) (by decide)⟩
  · obtain ⟨y1, y2⟩ := List.of_mem_zip hx
    exact (h.gSz (by rw [← wl]; exact hp) _ y1).fits (h.aheadSz c (by rw [← wl]; exact hq) _ y2) (by decide)
  · have := prL p q hp hq
    exact FitsL.zero (prS p q hp hq) (by omega)
theorem gt (c : Conn2 rows) : GtP rows ws gs := by
  have n3 := h.n3
  have n2 := h.n2'
  have m6 := h.m6
  have rl := h.rl
  have xS : ∀ r ∈ rows, ∀ x ∈ r, Sz 20 x := fun r hr x hx => sz_of (isF_den (h.rx r hr x hx).2) (Bt.of (B := 1) (h.rx r hr x hx).1 (h.le1 r hr x hx)) (by decide) (by decide) (by decide)
  refine ⟨⟨by omega, by omega, fun r hr => by rw [rl]; exact h.rr r hr, fun r hr x hx => (h.rx r hr x hx).1, h.rs, fun r hr => FitsL.zero (xS r hr) (by rw [h.rr r hr]; omega)⟩, ⟨by rw [rl]; exact h.wl, by omega, fun x hx => (h.wx x hx).1⟩, by rw [rl]; exact h.gl, fun g hg => (h.g g hg).gp, ⟨rfl, fun r hr => by rw [rl]; exact h.rr r hr, by rw [rl]; exact h.wl, fun r hr x hx => (xS r hr x hx).mono (by decide), fun x hx => (h.wSz x hx).mono (by decide), by omega⟩, fun s hs => ?_, by omega, h.m0, h.conn c, h.tb c⟩
  obtain ⟨a, b, d⟩ := h.sb hs
  exact ⟨by rw [rl]; exact a, sz_of b.2.2 (Bt.of (B := 1) (by grind) b.2.1) (by decide) (by decide) (by decide), sz_of d.2.2 (Bt.of (B := 2) (by grind) d.2.1) (by decide) (by decide) (by decide)⟩
end GG
end
end Gw
/-! Plain: the law's own rows, weights, guesses. -/
namespace Gw
theorem gdG_rw : ∀ g ∈ rwGs, GdG (g.map handed) := by
  intro g hg
  unfold rwGs at hg
  simp only [List.mem_cons, List.not_mem_nil, or_false] at hg
  rcases hg with rfl | rfl | rfl | rfl | rfl
  · exact ⟨⟨by decide +kernel, by decide +kernel, by decide +kernel, by decide +kernel, by decide +kernel, by decide +kernel, fun p hp => by unfold Sz; revert p; decide +kernel⟩, by decide +kernel⟩
  · exact ⟨⟨by decide +kernel, by decide +kernel, by decide +kernel, by decide +kernel, by decide +kernel, by decide +kernel, fun p hp => by unfold Sz; revert p; decide +kernel⟩, by decide +kernel⟩
  · exact ⟨⟨by decide +kernel, by decide +kernel, by decide +kernel, by decide +kernel, by decide +kernel, by decide +kernel, fun p hp => by unfold Sz; revert p; decide +kernel⟩, by decide +kernel⟩
  · exact ⟨⟨by decide +kernel, by decide +kernel, by decide +kernel, by decide +kernel, by decide +kernel, by decide +kernel, fun p hp => by unfold Sz; revert p; decide +kernel⟩, by decide +kernel⟩
  · exact ⟨⟨by decide +kernel, by decide +kernel, by decide +kernel, by decide +kernel, by decide +kernel, by decide +kernel, fun p hp => by unfold Sz; revert p; decide +kernel⟩, by decide +kernel⟩
theorem len_rw : ∀ g ∈ rwGs, g.length ≤ 2 := by decide +kernel
theorem standR_range (gs : List (List (Rat × Rat))) : standR gs = (List.range gs.length).flatMap fun i => standOf (i, gs[i]!) := by
  unfold standR
  rw [List.flatMap_def]
  congr 1
  apply List.ext_getElem
  · simp [enumN_len]
  · intro i h1 h2
    have h3 : i < gs.length := by simpa [enumN_len] using h1
    simp [enumN, h3]
theorem stand_le (gs : List (List (Rat × Rat))) (h : ∀ g ∈ gs, g.length ≤ 2) : (standR gs).length ≤ 2 * gs.length := by
  rw [standR_range]
  have key : ∀ k, k ≤ gs.length → ((List.range k).flatMap fun i => standOf (i, gs[i]!)).length ≤ 2 * k := by
    intro k
    induction k with
    | zero => intro _; simp
    | succ k ih =>
      intro hk
      rw [List.range_succ, List.flatMap_append, List.length_append]
      have h1 := ih (by omega)
      have h2 := h _ (get_mem (xs := gs) (i := k) (by omega))
      have h3 : (standOf (k, gs[k]!)).length ≤ (gs[k]!).length := by
        unfold standOf
        rw [List.length_map]
        exact List.length_filter_le _ _
      simp only [List.flatMap_cons, List.flatMap_nil, List.append_nil]
      omega
  exact key _ (Nat.le_refl _)
theorem gQ_at {gs : List RwG} {i : Nat} (h : i < gs.length) : (gQ gs)[i]! = (gs[i]!).map handed := by
  unfold gQ
  rw [getElem!_pos _ i (by simpa using h), List.getElem_map, getElem!_pos gs i h]
theorem wQ_at {ws : List Nat} {i : Nat} (h : i < ws.length) : (wQ ws)[i]! = ((ws[i]! : Nat) : Rat) := by
  unfold wQ
  rw [getElem!_pos _ i (by simpa using h), List.getElem_map, getElem!_pos ws i h]
  rfl
theorem S_nat (ws : List Nat) : S ws (fun x => ((x : Nat) : Rat)) = ((ws.sum : Nat) : Rat) := by
  induction ws with
  | nil => rfl
  | cons x ws ih => rw [S_cons, ih, List.sum_cons, Rat.natCast_add]
theorem sum_wQ (ws : List Nat) : sumR (wQ ws) = ((ws.sum : Nat) : Rat) := by
  unfold wQ
  rw [sumR_S, S_map, ← S_nat]
  rfl
theorem gg4 {n : Nat} {B : List (List Rat)} {ws : List Nat} {gs : List RwG} (n2 : n = 2 ∨ n = 3) (b : Good0 n B) (wl : ws.length = n) (w : ∀ x ∈ ws, 1 ≤ x ∧ x ≤ 4) (gl : gs.length = n) (g : ∀ g ∈ gs, g ∈ rwGs) : GG n B (wQ ws) (gQ gs) := by
  have sm : 0 < ws.sum ∧ ws.sum ≤ 4 * ws.length := by
    have key : ∀ l : List Nat, (∀ x ∈ l, 1 ≤ x ∧ x ≤ 4) → l.length ≤ l.sum ∧ l.sum ≤ 4 * l.length := by
      intro l
      induction l with
      | nil => intro _; simp
      | cons a l ih =>
        intro hl
        have := ih fun b hb => hl b (by simp [hb])
        have := hl a (by simp)
        rw [List.sum_cons, List.length_cons]
        omega
    have := key ws w
    omega
  have Kz : ((ws.sum : Nat) : Rat) ≠ 0 := by rw [Ne, Rat.natCast_eq_zero_iff]; omega
  refine ⟨n2, b.l, fun r hr => (b.r r hr).l, fun r hr x hx => (b.r r hr).x x hx, fun r hr => (b.r r hr).s, by simp [wQ, wl], fun x hx => ?_, ⟨ws.sum, sm.1, by omega, fun x hx => ?_, sum_wQ ws⟩, by simp [gQ, gl], fun g' hg' => ?_, ?_⟩
  · obtain ⟨k, hk, rfl⟩ := List.mem_map.mp hx
    have hk := w k hk
    have k1 : (1 : Rat) ≤ (((k : Nat) : Int) : Rat) := by
      have : ((1 : Nat) : Rat) ≤ ((k : Nat) : Rat) := Rat.natCast_le_natCast.mpr hk.1
      exact this
    have k4 : (((k : Nat) : Int) : Rat) ≤ 4 := by
      have : ((k : Nat) : Rat) ≤ ((4 : Nat) : Rat) := Rat.natCast_le_natCast.mpr hk.2
      exact this
    exact ⟨by grind, k4, by rw [Rat.den_intCast]; exact Nat.one_dvd 1⟩
  · obtain ⟨k, hk, rfl⟩ := List.mem_map.mp hx
    rw [sum_wQ]
    refine IsF.den ⟨(k : Int), ?_⟩ sm.1
    rw [Rat.div_mul_cancel Kz]
  · obtain ⟨g0, hg0, rfl⟩ := List.mem_map.mp hg'
    exact gdG_rw g0 (g g0 hg0)
  · have := stand_le (gQ gs) fun g' hg' => by
      obtain ⟨g0, hg0, rfl⟩ := List.mem_map.mp hg'
      rw [List.length_map]
      exact len_rw g0 (g g0 hg0)
    have e : (gQ gs).length = n := by simp [gQ, gl]
    omega
/-! ### rows drawn -/
theorem math_row (n : Nat) (xs : List Nat) (hn : n ≤ 3) (h : DrR n xs) : RowG n (rowQ xs) := by
  have hs := h.s
  have bd : 0 ≤ sumN xs ∧ sumN xs ≤ 2 * xs.length := sumN_le h.le
  have hl := h.l
  have s0 : 0 < sumN xs := by omega
  have s6 : sumN xs ≤ 6 := by omega
  have e1 : ∀ l : List Nat, S l (fun x => (((x : Nat) : Int) : Rat)) = ((sumN l : Int) : Rat) := by
    intro l
    induction l with
    | nil => rfl
    | cons x l ih =>
      rw [S_cons, ih]
      unfold sumN
      rw [List.map_cons, List.sum_cons, Rat.intCast_add]
  generalize hK : sumN xs = K at *
  refine ⟨by simp [rowQ, hl], fun x hx => ?_, ?_⟩
  · obtain ⟨k, hk, rfl⟩ := List.mem_map.mp hx
    rw [hK]
    constructor
    · exact (Rat.divInt_nonneg_iff_of_pos_right s0).mpr (by omega)
    · rw [Rat.den_divInt, if_neg (by omega)]
      have : K.natAbs / K.gcd (k : Int) ∣ K.natAbs := Nat.div_dvd_of_dvd (Nat.gcd_dvd_left _ _)
      refine Nat.dvd_trans this ?_
      have h1 : K.natAbs = 1 ∨ K.natAbs = 2 ∨ K.natAbs = 3 ∨ K.natAbs = 4 ∨ K.natAbs = 5 ∨ K.natAbs = 6 := by omega
      rcases h1 with e | e | e | e | e | e <;> rw [e] <;> decide
  · unfold rowQ
    rw [sumR_S, S_map, hK]
    have hz : ((K : Int) : Rat) ≠ 0 := by rw [Ne, Rat.intCast_eq_zero_iff]; omega
    have : S xs (fun b => Rat.divInt (b : Int) K) = S xs (fun b => (((b : Nat) : Int) : Rat)) * (((K : Int) : Rat))⁻¹ := by
      rw [← S_mulr]
      exact S_congr fun x _ => by rw [Rat.divInt_eq_div, Rat.div_def]
    rw [this, e1, hK, Rat.mul_inv_cancel _ hz]
theorem math_uni (n : Nat) (h : n = 2 ∨ n = 3) : Good0 n (uniB n) ∧ Conn2 (uniB n) := by
  have pos : ∀ i j, i < n → j < n → 0 < ((uniB n)[i]!)[j]! := fun i j hi hj => by
    unfold uniB
    rw [getElem!_pos _ i (by simpa using hi), List.getElem_replicate, getElem!_pos _ j (by simpa using hj), List.getElem_replicate]
    rcases h with rfl | rfl <;> decide +kernel
  have ul : (uniB n).length = n := by simp [uniB]
  refine ⟨⟨ul, fun r hr => ?_⟩, fun T h0 hc i hi => ?_⟩
  · unfold uniB at hr
    rw [List.eq_of_mem_replicate hr]
    refine ⟨by simp, fun x hx => ?_, ?_⟩
    · rw [List.eq_of_mem_replicate hx]
      rcases h with rfl | rfl <;> decide +kernel
    · rcases h with rfl | rfl <;> decide +kernel
  · rw [ul] at hc hi
    exact hc 0 i h0 (by omega) hi (pos 0 i (by omega) hi) (pos i 0 hi (by omega))
end Gw
/-! Plain: one number that all heads of the steps divide. -/
namespace Gw
theorem bareR_dvd (row : List Int) (j : Nat) : (bareR row)[j]! ∣ row[j]! := by
  unfold bareR
  split
  · rw [vv_map (by simp)]
    by_cases hj : j < row.length
    · rw [getElem!_pos row j hj]
      obtain ⟨c, hc⟩ := gcdL_dvd (row := row) row[j] (List.getElem_mem hj)
      rw [hc, Int.mul_fdiv_cancel_left _ (by omega)]
      exact Int.dvd_mul_left _ _
    · rw [getElem!_neg row j hj]
      show Int.fdiv 0 _ ∣ (0 : Int)
      simp
  · exact Int.dvd_refl _
theorem cleared_head {r H : List Int} {k : Nat} (hl : r.length = H.length) (hk : vv H k ≠ 0) (hz : ∀ j, j < k → vv H j = 0) (h1 : headOf r < k) (h2 : vv r (headOf r) ≠ 0) : headOf (clearedR r H k) = headOf r ∧ (clearedR r H k)[headOf r]! ∣ H[k]! * r[headOf r]! := by
  obtain ⟨a, b, ha, e, _⟩ := clearedR_spec (row := r) (head := H) (p := k) hl hk
  have hlr : headOf r < r.length := vv_lt h2
  refine ⟨headOf_eq ?_ fun j hj => ?_, ?_⟩
  · rw [e, hz _ h1]
    intro q
    have : a * vv r (headOf r) = 0 := by grind
    rcases Rat.mul_eq_zero.mp this with q | q
    · exact ha q
    · exact h2 q
  · rw [e, hz j (by omega), (headOf_at hlr).2 j hj]
    grind
  · unfold clearedR
    split
    · exact Int.dvd_mul_left _ _
    · refine Int.dvd_trans (bareR_dvd _ _) ?_
      have hlH : headOf r < H.length := by omega
      have hz0 := vv_zero.mp (hz _ h1)
      rw [getElem!_pos H _ hlH] at hz0
      rw [getElem!_pos _ (headOf r) (by simp; omega), List.getElem_map, List.getElem_zip]
      show H[k]! * r[headOf r] - r[k]! * H[headOf r] ∣ _
      rw [hz0, Int.mul_zero, Int.sub_zero, getElem!_pos r _ hlr]
      exact Int.dvd_refl _
def eb (b : Nat) : Nat → Nat
  | 0 => 0
  | j + 1 => eb b j + bits b j
structure Piv (b : Nat) (s : St2) : Prop where
  ex : ∃ E : Nat, 0 < E ∧ E ≤ 2 ^ eb b s.found.length ∧ ∀ r ∈ s.found, (r[headOf r]!).natAbs ∣ E
theorem piv_step {A : List (List Int)} {M b n k : Nat} {s : St2} (I : Inv A M k s) (O : StOk M b n s) (hk : k < M) (P : Piv b s) : Piv b (stepI k s) := by
  unfold stepI
  split
  · rename_i i hi
    obtain ⟨hl, hne, _⟩ := findIdx_some hi
    have hm : s.left[i]! ∈ s.left := get_mem hl
    have hk0 : vv s.left[i]! k ≠ 0 := by
      rw [Ne, vv_zero, getElem!_pos s.left i hl]
      simpa using hne
    obtain ⟨g, hg, he⟩ := headedR_spec s.left[i]! k
    have hlen : (headedR s.left[i]! k).length = M := by rw [headedR_len]; exact I.len _ (List.mem_append_left _ hm)
    have hbd : Bd (bits b s.found.length) (headedR s.left[i]! k) := headedR_bd (O.l.bd _ hm) k
    generalize headedR s.left[i]! k = H at *
    have hHk : vv H k ≠ 0 := by
      rw [he]
      intro q
      rcases Rat.mul_eq_zero.mp q with q | q
      · exact hg q
      · exact hk0 q
    have hz : ∀ j, j < k → vv H j = 0 := fun j hj => by rw [he, I.zl _ hm j hj]; grind
    have hH : headOf H = k := headOf_eq hHk hz
    obtain ⟨E, E0, Eb, Ed⟩ := P.ex
    have h0 : (H[k]!).natAbs ≠ 0 := by
      intro q
      exact hHk (vv_zero.mpr (by omega))
    refine ⟨(H[k]!).natAbs * E, Nat.mul_pos (by omega) E0, ?_, fun r hr => ?_⟩
    · have fl : ((s.found.map fun r => clearedR r H k) ++ [H]).length = s.found.length + 1 := by simp
      show _ ≤ 2 ^ eb b ((s.found.map fun r => clearedR r H k) ++ [H]).length
      rw [fl]
      show _ ≤ 2 ^ (eb b s.found.length + bits b s.found.length)
      rw [Nat.pow_add, Nat.mul_comm]
      exact Nat.mul_le_mul Eb (Nat.le_of_lt (hbd.get (by rw [hlen]; exact hk)))
    · rcases List.mem_append.mp hr with q | q
      · obtain ⟨y, hy, rfl⟩ := List.mem_map.mp q
        obtain ⟨y1, y2⟩ := I.hd y hy
        obtain ⟨c1, c2⟩ := cleared_head (by rw [hlen]; exact I.len _ (List.mem_append_right _ hy)) hHk hz y1 y2
        rw [c1]
        have := Int.natAbs_dvd_natAbs.mpr c2
        rw [Int.natAbs_mul] at this
        exact Nat.dvd_trans this (Nat.mul_dvd_mul_left _ (Ed y hy))
      · rw [List.mem_singleton.mp q, hH]
        exact Nat.dvd_mul_right _ _
  · exact P
theorem piv_steps {A : List (List Int)} {M b : Nat} (h : Rect M b A) : ∀ k, k ≤ M → Piv b (stepsTo A k)
  | 0, _ => ⟨1, by decide, by simp [stepsTo, eb], fun r hr => by simp [stepsTo] at hr⟩
  | k + 1, hk => by
    rw [stepsTo_succ]
    exact piv_step (inv_steps h.len k) (stepsTo_ok h k (by omega)) (by omega) (piv_steps h k (by omega))
theorem eb_mono {b : Nat} : ∀ {j k : Nat}, j ≤ k → eb b j ≤ eb b k
  | j, 0, h => by have : j = 0 := by omega
                  subst this; exact Nat.le_refl _
  | j, k + 1, h => by
    by_cases e : j = k + 1
    · subst e; exact Nat.le_refl _
    · have := eb_mono (b := b) (j := j) (k := k) (by omega)
      show _ ≤ eb b k + bits b k
      omega
end Gw
/-! Plain: a guessed walk's table as a form: alike both ways, rows that add up to 0, no worth below 0. -/
namespace Gw
section
variable {m : Nat} {F : Nat → Nat → Rat}
theorem sq_nonneg (z : Rat) : 0 ≤ z * z := by
  rcases Rat.le_total (a := 0) (b := z) with q | q
  · exact Rat.mul_nonneg q q
  · have : 0 ≤ -z := by grind
    have := Rat.mul_nonneg this this
    grind
theorem lap_add (x y : Nat → Rat) (i : Nat) : lap m F (fun i => x i + y i) i = lap m F x i + lap m F y i := by
  unfold lap
  rw [← S_add]
  exact S_congr fun j _ => by grind
theorem lap_sub (x y : Nat → Rat) (i : Nat) : lap m F (fun i => x i - y i) i = lap m F x i - lap m F y i := by
  unfold lap
  rw [← S_sub]
  exact S_congr fun j _ => by grind
theorem lap_mix (n : Nat) (k : Nat → Rat) (x : Nat → Nat → Rat) (i : Nat) : lap m F (fun i => S (List.range n) fun q => k q * x q i) i = S (List.range n) fun q => k q * lap m F (x q) i := by
  unfold lap
  have : S (List.range n) (fun q => k q * S (List.range m) fun j => F i j * (x q i - x q j)) = S (List.range n) (fun q => S (List.range m) fun j => k q * (F i j * (x q i - x q j))) := S_congr fun q _ => by rw [S_mul]
  rw [this, S_swap]
  refine S_congr fun j _ => ?_
  rw [← S_sub, ← S_mul]
  exact S_congr fun q _ => by grind
/-- no worth below 0 -/
theorem energy_ge (h : ∀ i j, i < m → j < m → F i j = F j i) (hn : ∀ i j, i < m → j < m → 0 ≤ F i j) {μ t x : Nat → Rat} (hs : ∀ i, i < m → S (List.range m) (F i) ≤ μ i) (hx : ∀ i, i < m → lap m F x i = μ i * t i) : S (List.range m) (fun i => μ i * (t i * t i)) ≤ 2 * S (List.range m) (fun i => μ i * t i * x i) := by
  have e := lap_energy h x
  have e2 : S (List.range m) (fun i => x i * lap m F x i) = S (List.range m) (fun i => μ i * t i * x i) := S_congr fun i hi => by rw [hx i (List.mem_range.mp hi)]; grind
  rw [e2] at e
  rw [e]
  refine S_mono fun i hi => ?_
  have hi := List.mem_range.mp hi
  have p : 0 ≤ S (List.range m) fun j => F i j * ((x i - x j - t i) * (x i - x j - t i)) := S_nonneg fun j hj => Rat.mul_nonneg (hn i j hi (List.mem_range.mp hj)) (sq_nonneg _)
  have p2 : S (List.range m) (fun j => F i j * ((x i - x j - t i) * (x i - x j - t i))) = S (List.range m) (fun j => F i j * ((x i - x j) * (x i - x j))) - (2 * t i) * lap m F x i + (t i * t i) * S (List.range m) (F i) := by
    unfold lap
    rw [← S_mul, ← S_mul, ← S_sub, ← S_add]
    exact S_congr fun j _ => by grind
  rw [p2, hx i hi] at p
  have q := Rat.mul_le_mul_of_nonneg_left (hs i hi) (sq_nonneg (t i))
  grind
/-- what is ahead is the best of all heights -/
theorem var_max (h : ∀ i j, i < m → j < m → F i j = F j i) (hn : ∀ i j, i < m → j < m → 0 ≤ F i j) {g x : Nat → Rat} (hx : ∀ i, i < m → lap m F x i = g i) (y : Nat → Rat) : 2 * S (List.range m) (fun i => g i * y i) - S (List.range m) (fun i => y i * lap m F y i) ≤ S (List.range m) (fun i => g i * x i) := by
  have e := lap_energy h (fun i => x i - y i)
  have p : 0 ≤ S (List.range m) fun i => S (List.range m) fun j => F i j * ((x i - y i - (x j - y j)) * (x i - y i - (x j - y j))) := S_nonneg fun i hi => S_nonneg fun j hj => Rat.mul_nonneg (hn i j (List.mem_range.mp hi) (List.mem_range.mp hj)) (sq_nonneg _)
  rw [← e] at p
  have s := lap_sym h x y
  have e1 : S (List.range m) (fun i => (x i - y i) * lap m F (fun i => x i - y i) i) = S (List.range m) (fun i => g i * x i) - S (List.range m) (fun i => lap m F y i * x i) - S (List.range m) (fun i => g i * y i) + S (List.range m) (fun i => y i * lap m F y i) := by
    rw [← S_sub, ← S_sub, ← S_add]
    exact S_congr fun i hi => by rw [lap_sub, hx i (List.mem_range.mp hi)]; grind
  have e2 : S (List.range m) (fun i => y i * lap m F x i) = S (List.range m) (fun i => g i * y i) := S_congr fun i hi => by rw [hx i (List.mem_range.mp hi)]; grind
  rw [e1, s, e2] at p
  grind
end
/-! ### the table -/
def XX (rows : List (List Rat)) (ws : List Rat) (gs : List (List (Rat × Rat))) (q i : Nat) : Rat := ((aheadsR (flowsR rows ws (standR gs)) (goalsR ws (standR gs)))[q]!)[i]!
def gi (ws : List Rat) (gs : List (List (Rat × Rat))) (p i : Nat) : Rat := gf ws p (standR gs)[i]!
def UU (rows : List (List Rat)) (ws : List Rat) (gs : List (List (Rat × Rat))) (p q : Nat) : Rat := S (List.range (standR gs).length) fun i => gi ws gs p i * XX rows ws gs q i
def dl (p q : Nat) : Rat := if p = q then 1 else 0
def sh (ws : List Rat) (p : Nat) : Rat := (sharesR ws)[p]!
/-- the worth of a table of n places at k -/
def Qf (n : Nat) (T : List (List Rat)) (k : Nat → Rat) : Rat := S (List.range n) fun p => S (List.range n) fun q => k p * k q * (T[p]!)[q]!
section
variable {n : Nat} {rows : List (List Rat)} {ws : List Rat} {gs : List (List (Rat × Rat))}
theorem table_at {ws : List Rat} {ss : List St3} {flows : List (List Rat)} {p q : Nat} (hp : p < ws.length) (hq : q < ws.length) : ((tableR ws ss flows)[p]!)[q]! = cellR ws (goalsR ws ss) (aheadsR flows (goalsR ws ss)) p q := by
  unfold tableR
  rw [getElem!_pos _ p (by simpa using hp), List.getElem_map, List.getElem_range, getElem!_pos _ q (by simpa using hq), List.getElem_map, List.getElem_range]
theorem math_tl {n : Nat} {rows : List (List Rat)} {ws : List Rat} {gs : List (List (Rat × Rat))} (h : ws.length = n) : (guessedR rows ws gs).length = n ∧ ∀ r ∈ guessedR rows ws gs, r.length = n := by
  subst h
  unfold guessedR tableR
  refine ⟨by simp, fun r hr => ?_⟩
  obtain ⟨p, _, rfl⟩ := List.mem_map.mp hr
  simp
theorem gf_mass (ws : List Rat) (p : Nat) (a : St3) : gf ws p a = mass ws a * (dl a.1 p - sh ws p) := rfl
namespace GG
variable (h : GG n rows ws gs) (c : Conn2 rows)
include h c
theorem xsol {q i : Nat} (hq : q < n) (hi : i < (standR gs).length) : lap (standR gs).length (fF (flowsR rows ws (standR gs))) (XX rows ws gs q) i = gi ws gs q i := by
  have gl : (goalsR ws (standR gs)).length = n := by rw [goalsR_len, h.wl]
  have := (h.net c).solves (k := q) (by rw [gl]; exact hq) (i := i) (by rw [flowsR_len]; exact hi)
  rw [flowsR_len, goalsR_at2 (by rw [h.wl]; exact hq) hi] at this
  exact this
theorem fsym : ∀ i j, i < (standR gs).length → j < (standR gs).length → fF (flowsR rows ws (standR gs)) i j = fF (flowsR rows ws (standR gs)) j i := fun i j hi hj => (h.net c).symF i j (by rw [flowsR_len]; exact hi) (by rw [flowsR_len]; exact hj)
theorem fnn : ∀ i j, i < (standR gs).length → j < (standR gs).length → 0 ≤ fF (flowsR rows ws (standR gs)) i j := fun i j hi hj => (h.net c).nn i j (by rw [flowsR_len]; exact hi) (by rw [flowsR_len]; exact hj)
theorem usym {p q : Nat} (hp : p < n) (hq : q < n) : UU rows ws gs p q = UU rows ws gs q p := by
  have s := lap_sym (h.fsym c) (XX rows ws gs q) (XX rows ws gs p)
  rw [S_congr (g := fun i => gi ws gs p i * XX rows ws gs q i) fun i hi => by rw [h.xsol c hp (List.mem_range.mp hi)], S_congr (f := fun i => XX rows ws gs p i * _) (g := fun i => gi ws gs q i * XX rows ws gs p i) fun i hi => by rw [h.xsol c hq (List.mem_range.mp hi)]; grind] at s
  exact s
omit c in
theorem cell_eq {p q : Nat} (hp : p < n) (hq : q < n) : ((guessedR rows ws gs)[p]!)[q]! = UU rows ws gs p q / sumR ws * 2 - sh ws p * (dl p q - sh ws q) := by
  have gl : (goalsR ws (standR gs)).length = n := by rw [goalsR_len, h.wl]
  have hp' : p < ws.length := by rw [h.wl]; exact hp
  have hq' : q < ws.length := by rw [h.wl]; exact hq
  unfold guessedR
  rw [table_at hp' hq']
  unfold cellR bothR
  rw [zip_sum]
  · rw [goalsR_at hp', List.length_map]
    have e : S (List.range (standR gs).length) (fun i => ((standR gs).map (gf ws p))[i]! * ((aheadsR (flowsR rows ws (standR gs)) (goalsR ws (standR gs)))[q]!)[i]!) = UU rows ws gs p q := by
      refine S_congr fun i hi => ?_
      have hi := List.mem_range.mp hi
      rw [getElem!_pos _ i (by simpa using hi), List.getElem_map]
      unfold gi XX
      rw [getElem!_pos (standR gs) i hi]
    rw [e]
    rfl
  · rw [aheadsR_at (by rw [gl]; exact hq), flowsR_len, goalsR_at hp', List.length_map]
theorem tsym {p q : Nat} (hp : p < n) (hq : q < n) : ((guessedR rows ws gs)[p]!)[q]! = ((guessedR rows ws gs)[q]!)[p]! := by
  rw [h.cell_eq hp hq, h.cell_eq hq hp, h.usym c hp hq]
  unfold dl
  by_cases e : p = q
  · subst e; rfl
  · rw [if_neg e, if_neg fun z => e z.symm]; grind
omit c in
theorem shsum : S (List.range n) (sh ws) = 1 := h.shS
omit c in
theorem dsum {p : Nat} (hp : p < n) (k : Nat → Rat) : S (List.range n) (fun q => k q * dl p q) = k p := by
  rw [S_one (i := p) hp fun j _ hj => by unfold dl; rw [if_neg fun z => hj z.symm]; grind]
  unfold dl
  rw [if_pos rfl]; grind
omit c in
theorem gi0 {i : Nat} (hi : i < (standR gs).length) : S (List.range n) (fun q => gi ws gs q i) = 0 := by
  have a1 := (h.sb (s := (standR gs)[i]!) (get_mem hi)).1
  have e : S (List.range n) (fun q => gi ws gs q i) = mass ws (standR gs)[i]! * S (List.range n) (fun q => dl ((standR gs)[i]!).1 q - sh ws q) := by
    rw [← S_mul]
    exact S_congr fun q _ => gf_mass _ _ _
  rw [e, S_sub, h.shsum]
  have d := h.dsum a1 (fun _ => 1)
  rw [S_congr (g := fun q => dl ((standR gs)[i]!).1 q) fun q _ => by grind] at d
  rw [d]; grind
theorem trow {p : Nat} (hp : p < n) : S (List.range n) (fun q => ((guessedR rows ws gs)[p]!)[q]!) = 0 := by
  have e : S (List.range n) (fun q => ((guessedR rows ws gs)[p]!)[q]!) = S (List.range n) (fun q => UU rows ws gs p q) * ((sumR ws)⁻¹ * 2) - sh ws p * S (List.range n) (fun q => dl p q - sh ws q) := by
    rw [← S_mulr, ← S_mul, ← S_sub]
    refine S_congr fun q hq => ?_
    rw [h.cell_eq hp (List.mem_range.mp hq), Rat.div_def]; grind
  have u0 : S (List.range n) (fun q => UU rows ws gs p q) = 0 := by
    rw [S_congr fun q hq => h.usym c hp (List.mem_range.mp hq)]
    unfold UU
    rw [S_swap]
    refine S_zero' fun i hi => ?_
    rw [S_mulr, h.gi0 (List.mem_range.mp hi)]; grind
  have d := h.dsum hp (fun _ => 1)
  rw [S_congr (g := fun q => dl p q) fun q _ => by grind] at d
  rw [e, u0, S_sub, h.shsum, d]; grind
/-! ### its worths -/
omit c in
theorem gk {k : Nat → Rat} {i : Nat} (hi : i < (standR gs).length) : S (List.range n) (fun p => k p * gi ws gs p i) = mass ws (standR gs)[i]! * (k ((standR gs)[i]!).1 - S (List.range n) fun p => sh ws p * k p) := by
  have a1 := (h.sb (s := (standR gs)[i]!) (get_mem hi)).1
  have e : S (List.range n) (fun p => k p * gi ws gs p i) = mass ws (standR gs)[i]! * (S (List.range n) (fun p => k p * dl ((standR gs)[i]!).1 p) - S (List.range n) fun p => sh ws p * k p) := by
    rw [← S_sub, ← S_mul]
    refine S_congr fun p _ => ?_
    show k p * gf ws p _ = _
    rw [gf_mass]; grind
  rw [e, h.dsum a1 k]
omit c in
theorem msum (φ : Nat → Rat) : S (List.range (standR gs).length) (fun i => mass ws (standR gs)[i]! * φ ((standR gs)[i]!).1) = S (List.range n) (fun p => ws[p]! * φ p) := by
  rw [← S_range (standR gs) (fun a => mass ws a * φ a.1), ← h.gl, ← S_stand (fun g hg => (h.g g hg).gp) (fun p => ws[p]! * φ p)]
  exact S_congr fun a _ => by unfold mass; grind
omit c in
theorem vk (k : Nat → Rat) : sumR ws * S (List.range n) (fun p => S (List.range n) fun q => k p * k q * (sh ws p * (dl p q - sh ws q))) = S (List.range (standR gs).length) (fun i => mass ws (standR gs)[i]! * ((k ((standR gs)[i]!).1 - S (List.range n) fun p => sh ws p * k p) * (k ((standR gs)[i]!).1 - S (List.range n) fun p => sh ws p * k p))) := by
  rw [h.msum (fun p => (k p - S (List.range n) fun p => sh ws p * k p) * (k p - S (List.range n) fun p => sh ws p * k p))]
  generalize hkb : S (List.range n) (fun p => sh ws p * k p) = kb
  have e1 : S (List.range n) (fun p => S (List.range n) fun q => k p * k q * (sh ws p * (dl p q - sh ws q))) = S (List.range n) (fun p => sh ws p * (k p * k p)) - kb * kb := by
    have : S (List.range n) (fun p => S (List.range n) fun q => k p * k q * (sh ws p * (dl p q - sh ws q))) = S (List.range n) (fun p => sh ws p * (k p * k p) - sh ws p * k p * kb) := by
      refine S_congr fun p hp => ?_
      have : S (List.range n) (fun q => k p * k q * (sh ws p * (dl p q - sh ws q))) = sh ws p * k p * (S (List.range n) (fun q => k q * dl p q) - S (List.range n) fun q => sh ws q * k q) := by
        rw [← S_sub, ← S_mul]
        exact S_congr fun q _ => by grind
      rw [this, h.dsum (List.mem_range.mp hp) k, hkb]; grind
    rw [this, S_sub, S_mulr, hkb]
  have e2 : S (List.range n) (fun p => ws[p]! * ((k p - kb) * (k p - kb))) = sumR ws * (S (List.range n) (fun p => sh ws p * (k p * k p)) - kb * kb) := by
    have W0 := h.W0
    have hw : ∀ p, p < n → ws[p]! = sumR ws * sh ws p := fun p hp => by
      unfold sh
      rw [(h.sh_at hp).1, Rat.mul_comm, Rat.div_mul_cancel (by grind)]
    have : S (List.range n) (fun p => ws[p]! * ((k p - kb) * (k p - kb))) = sumR ws * (S (List.range n) (fun p => sh ws p * (k p * k p)) - (2 * kb) * S (List.range n) (fun p => sh ws p * k p) + (kb * kb) * S (List.range n) (sh ws)) := by
      rw [← S_mul, ← S_mul, ← S_sub, ← S_add, ← S_mul]
      exact S_congr fun p hp => by rw [hw p (List.mem_range.mp hp)]; grind
    rw [this, hkb, h.shsum]; grind
  rw [e1, e2]
omit c in
theorem quad (k : Nat → Rat) : sumR ws * Qf n (guessedR rows ws gs) k = 2 * S (List.range (standR gs).length) (fun i => S (List.range n) (fun p => k p * gi ws gs p i) * S (List.range n) (fun q => k q * XX rows ws gs q i)) - sumR ws * S (List.range n) (fun p => S (List.range n) fun q => k p * k q * (sh ws p * (dl p q - sh ws q))) := by
  have W0 := h.W0
  have e : Qf n (guessedR rows ws gs) k = S (List.range n) (fun p => S (List.range n) fun q => k p * k q * UU rows ws gs p q) * ((sumR ws)⁻¹ * 2) - S (List.range n) (fun p => S (List.range n) fun q => k p * k q * (sh ws p * (dl p q - sh ws q))) := by
    unfold Qf
    rw [← S_mulr, ← S_sub]
    refine S_congr fun p hp => ?_
    rw [← S_mulr, ← S_sub]
    refine S_congr fun q hq => ?_
    rw [h.cell_eq (List.mem_range.mp hp) (List.mem_range.mp hq), Rat.div_def]; grind
  have u : S (List.range n) (fun p => S (List.range n) fun q => k p * k q * UU rows ws gs p q) = S (List.range (standR gs).length) (fun i => S (List.range n) (fun p => k p * gi ws gs p i) * S (List.range n) (fun q => k q * XX rows ws gs q i)) := by
    have : ∀ p q, k p * k q * UU rows ws gs p q = S (List.range (standR gs).length) fun i => k p * gi ws gs p i * (k q * XX rows ws gs q i) := fun p q => by
      unfold UU
      rw [← S_mul]
      exact S_congr fun i _ => by grind
    rw [S_congr fun p _ => S_congr fun q _ => this p q]
    rw [S_congr (f := fun p => S (List.range n) fun q => S (List.range (standR gs).length) fun i => k p * gi ws gs p i * (k q * XX rows ws gs q i)) fun p _ => S_swap, S_swap]
    refine S_congr fun i _ => ?_
    rw [← S_mulr]
    refine S_congr fun p _ => ?_
    rw [S_mul]
  rw [e, u]
  have i1 := Rat.mul_inv_cancel (sumR ws) (by grind)
  grind
theorem xk (k : Nat → Rat) {i : Nat} (hi : i < (standR gs).length) : lap (standR gs).length (fF (flowsR rows ws (standR gs))) (fun i => S (List.range n) fun q => k q * XX rows ws gs q i) i = S (List.range n) fun p => k p * gi ws gs p i := by
  rw [lap_mix]
  exact S_congr fun q hq => by rw [h.xsol c (List.mem_range.mp hq) hi]
omit c in
theorem out_le2 {i : Nat} (hi : i < (standR gs).length) : S (List.range (standR gs).length) (fF (flowsR rows ws (standR gs)) i) ≤ mass ws (standR gs)[i]! := by
  have o := h.out_le (a := (standR gs)[i]!) (get_mem hi)
  refine Rat.le_trans ?_ o.1
  rw [S_range (standR gs)]
  refine S_mono fun j hj => ?_
  have hj := List.mem_range.mp hj
  rw [flowsR_at hi hj]
  split
  · exact (h.flowB (get_mem hi) (get_mem hj)).1
  · exact Rat.le_refl
theorem qf_nonneg (k : Nat → Rat) : 0 ≤ Qf n (guessedR rows ws gs) k := by
  have W0 := h.W0
  have q := h.quad k
  rw [h.vk k] at q
  have e := energy_ge (h.fsym c) (h.fnn c) (μ := fun i => mass ws (standR gs)[i]!) (t := fun i => k ((standR gs)[i]!).1 - S (List.range n) fun p => sh ws p * k p) (x := fun i => S (List.range n) fun q => k q * XX rows ws gs q i) (fun i hi => h.out_le2 hi) (fun i hi => by rw [h.xk c k hi, h.gk hi])
  have e2 : S (List.range (standR gs).length) (fun i => S (List.range n) (fun p => k p * gi ws gs p i) * S (List.range n) (fun q => k q * XX rows ws gs q i)) = S (List.range (standR gs).length) (fun i => mass ws (standR gs)[i]! * (k ((standR gs)[i]!).1 - S (List.range n) fun p => sh ws p * k p) * S (List.range n) (fun q => k q * XX rows ws gs q i)) := S_congr fun i hi => by rw [h.gk (List.mem_range.mp hi)]
  rw [e2] at q
  have pos : 0 ≤ sumR ws * Qf n (guessedR rows ws gs) k := by rw [q]; grind
  by_cases z : 0 ≤ Qf n (guessedR rows ws gs) k
  · exact z
  · exfalso
    have := Rat.mul_pos W0 (show 0 < -(Qf n (guessedR rows ws gs) k) by grind)
    grind
end GG
end
end Gw
/-! Plain: guesses that are more spread make tables that are more. -/
namespace Gw
/-- how the chances of one guess are taken apart into those of another one -/
structure Cpl (A B : List St3) (κ : Nat → Nat → Rat) : Prop where
  nn : ∀ i j, i < A.length → j < B.length → 0 ≤ κ i j
  pl : ∀ i j, i < A.length → j < B.length → κ i j = 0 ∨ (A[i]!).1 = (B[j]!).1
  k1 : ∀ j, j < B.length → S (List.range A.length) (fun i => κ i j) = (B[j]!).2.1
  k2 : ∀ i, i < A.length → S (List.range B.length) (fun j => κ i j) ≤ (A[i]!).2.1
  k3 : ∀ i, i < A.length → S (List.range B.length) (fun j => κ i j * (B[j]!).2.2) = (A[i]!).2.1 * (A[i]!).2.2
/-- the square of a mean is no more than the mean of squares -/
theorem jensen {α : Type} {l : List α} {ω d : α → Rat} {O D : Rat} (h : ∀ a ∈ l, 0 ≤ ω a) (ho : S l ω = O) (hd : S l (fun a => ω a * d a) = O * D) : O * (D * D) ≤ S l (fun a => ω a * (d a * d a)) := by
  have p : 0 ≤ S l fun a => ω a * ((d a - D) * (d a - D)) := S_nonneg fun a ha => Rat.mul_nonneg (h a ha) (sq_nonneg _)
  have e : S l (fun a => ω a * ((d a - D) * (d a - D))) = S l (fun a => ω a * (d a * d a)) - (2 * D) * S l (fun a => ω a * d a) + (D * D) * S l ω := by
    rw [← S_mul, ← S_mul, ← S_sub, ← S_add]
    exact S_congr fun a _ => by grind
  rw [e, ho, hd] at p
  grind
section
variable {n : Nat} {rows : List (List Rat)} {ws : List Rat} {gs gs' : List (List (Rat × Rat))} {κ : Nat → Nat → Rat}
/-- heights carried over -/
def carry (A B : List St3) (κ : Nat → Nat → Rat) (x : Nat → Rat) (j : Nat) : Rat := S (List.range A.length) (fun i => κ i j * x i) / (B[j]!).2.1
theorem carry_mul {A B : List St3} {x : Nat → Rat} {j : Nat} (hc : (B[j]!).2.1 ≠ 0) : (B[j]!).2.1 * carry A B κ x j = S (List.range A.length) (fun i => κ i j * x i) := by
  unfold carry
  rw [Rat.mul_comm, Rat.div_mul_cancel hc]
theorem flow_le {a b : St3} (h : 0 ≤ a.2.1 * b.2.1) : flowR rows ws a b ≤ a.2.1 * b.2.1 * hereR rows ws a b ∧ flowR rows ws a b ≤ a.2.1 * b.2.1 * hereR rows ws b a := by
  unfold flowR
  constructor
  · refine Rat.mul_le_mul_of_nonneg_left ?_ h
    split <;> grind
  · refine Rat.mul_le_mul_of_nonneg_left ?_ h
    split <;> grind
/-- the least of the two measures, chances left out -/
def minR (rows : List (List Rat)) (ws : List Rat) (a b : St3) : Rat := if hereR rows ws a b < hereR rows ws b a then hereR rows ws a b else hereR rows ws b a
theorem Cpl.flow (K : Cpl (standR gs) (standR gs') κ) (h : GG n rows ws gs) (h' : GG n rows ws gs') {i k : Nat} (hi : i < (standR gs).length) (hk : k < (standR gs).length) :
    S (List.range (standR gs').length) (fun j => S (List.range (standR gs').length) fun l => κ i j * κ k l * minR rows ws (standR gs')[j]! (standR gs')[l]!) ≤ flowR rows ws (standR gs)[i]! (standR gs)[k]! := by
  have ai := h.sb (s := (standR gs)[i]!) (get_mem hi)
  have ak := h.sb (s := (standR gs)[k]!) (get_mem hk)
  have knn : ∀ {i j l k : Nat}, i < (standR gs).length → k < (standR gs).length → j < (standR gs').length → l < (standR gs').length → 0 ≤ κ i j * κ k l := fun hi hk hj hl => Rat.mul_nonneg (K.nn _ _ hi hj) (K.nn _ _ hk hl)
  -- one way
  have one : ∀ {i k : Nat}, i < (standR gs).length → k < (standR gs).length → S (List.range (standR gs').length) (fun j => S (List.range (standR gs').length) fun l => κ i j * κ k l * hereR rows ws (standR gs')[j]! (standR gs')[l]!) ≤ ((standR gs)[i]!).2.1 * ((standR gs)[k]!).2.1 * hereR rows ws (standR gs)[i]! (standR gs)[k]! := fun {i k} hi hk => by
    have ai := h.sb (s := (standR gs)[i]!) (get_mem hi)
    have ak := h.sb (s := (standR gs)[k]!) (get_mem hk)
    have e : S (List.range (standR gs').length) (fun j => S (List.range (standR gs').length) fun l => κ i j * κ k l * hereR rows ws (standR gs')[j]! (standR gs')[l]!) = S (List.range (standR gs').length) (fun j => κ i j * ((standR gs')[j]!).2.2) * (S (List.range (standR gs').length) (fun l => κ k l) * (ws[((standR gs)[i]!).1]! * (rows[((standR gs)[i]!).1]!)[((standR gs)[k]!).1]!)) := by
      rw [← S_mulr]
      refine S_congr fun j hj => ?_
      have hj := List.mem_range.mp hj
      rw [← S_mulr, ← S_mul]
      refine S_congr fun l hl => ?_
      have hl := List.mem_range.mp hl
      rcases K.pl i j hi hj with z | z
      · rw [z]; grind
      · rcases K.pl k l hk hl with y | y
        · rw [y]; grind
        · unfold hereR
          rw [← z, ← y]; grind
    rw [e, K.k3 i hi]
    have w := h.wb ai.1
    have r := h.cb ai.1 ak.1
    have cw : 0 ≤ ws[((standR gs)[i]!).1]! * (rows[((standR gs)[i]!).1]!)[((standR gs)[k]!).1]! := Rat.mul_nonneg (by grind) r.1
    have le := Rat.mul_le_mul_of_nonneg_right (K.k2 k hk) cw
    have cv : 0 ≤ ((standR gs)[i]!).2.1 * ((standR gs)[i]!).2.2 := Rat.mul_nonneg (by grind) (by grind)
    have le2 := Rat.mul_le_mul_of_nonneg_left le cv
    unfold hereR
    grind
  have m1 : S (List.range (standR gs').length) (fun j => S (List.range (standR gs').length) fun l => κ i j * κ k l * minR rows ws (standR gs')[j]! (standR gs')[l]!) ≤ ((standR gs)[i]!).2.1 * ((standR gs)[k]!).2.1 * hereR rows ws (standR gs)[i]! (standR gs)[k]! := by
    refine Rat.le_trans (S_mono fun j hj => S_mono fun l hl => ?_) (one hi hk)
    refine Rat.mul_le_mul_of_nonneg_left ?_ (knn hi hk (List.mem_range.mp hj) (List.mem_range.mp hl))
    unfold minR
    split <;> grind
  have m2 : S (List.range (standR gs').length) (fun j => S (List.range (standR gs').length) fun l => κ i j * κ k l * minR rows ws (standR gs')[j]! (standR gs')[l]!) ≤ ((standR gs)[i]!).2.1 * ((standR gs)[k]!).2.1 * hereR rows ws (standR gs)[k]! (standR gs)[i]! := by
    have o := one hk hi
    rw [S_swap] at o
    refine Rat.le_trans (S_mono fun j hj => S_mono fun l hl => ?_) (Rat.le_trans o (by grind))
    have := Rat.mul_le_mul_of_nonneg_left (show minR rows ws (standR gs')[j]! (standR gs')[l]! ≤ hereR rows ws (standR gs')[l]! (standR gs')[j]! by unfold minR; split <;> grind) (knn hi hk (List.mem_range.mp hj) (List.mem_range.mp hl))
    grind
  unfold flowR
  split
  · exact m1
  · exact m2
/-- what is carried over flows less -/
theorem Cpl.energy (K : Cpl (standR gs) (standR gs') κ) (h : GG n rows ws gs) (h' : GG n rows ws gs') (c : Conn2 rows) (x : Nat → Rat) :
    S (List.range (standR gs').length) (fun j => carry (standR gs) (standR gs') κ x j * lap (standR gs').length (fF (flowsR rows ws (standR gs'))) (carry (standR gs) (standR gs') κ x) j) ≤ S (List.range (standR gs).length) (fun i => x i * lap (standR gs).length (fF (flowsR rows ws (standR gs))) x i) := by
  have e1 := lap_energy (h'.fsym c) (carry (standR gs) (standR gs') κ x)
  have e2 := lap_energy (h.fsym c) x
  have cp : ∀ j, j < (standR gs').length → 0 < ((standR gs')[j]!).2.1 := fun j hj => (h'.sb (s := (standR gs')[j]!) (get_mem hj)).2.1.1
  have step : ∀ j l, j < (standR gs').length → l < (standR gs').length → fF (flowsR rows ws (standR gs')) j l * ((carry (standR gs) (standR gs') κ x j - carry (standR gs) (standR gs') κ x l) * (carry (standR gs) (standR gs') κ x j - carry (standR gs) (standR gs') κ x l)) ≤ S (List.range (standR gs).length) fun i => S (List.range (standR gs).length) fun k => κ i j * κ k l * minR rows ws (standR gs')[j]! (standR gs')[l]! * ((x i - x k) * (x i - x k)) := fun j l hj hl => by
    have mn : 0 ≤ minR rows ws (standR gs')[j]! (standR gs')[l]! := by
      unfold minR
      split
      · exact (h'.hereB (get_mem hj) (get_mem hl)).1
      · exact (h'.hereB (get_mem hl) (get_mem hj)).1
    have pos : 0 ≤ S (List.range (standR gs).length) fun i => S (List.range (standR gs).length) fun k => κ i j * κ k l * minR rows ws (standR gs')[j]! (standR gs')[l]! * ((x i - x k) * (x i - x k)) := S_nonneg fun i hi => S_nonneg fun k hk => Rat.mul_nonneg (Rat.mul_nonneg (Rat.mul_nonneg (K.nn _ _ (List.mem_range.mp hi) hj) (K.nn _ _ (List.mem_range.mp hk) hl)) mn) (sq_nonneg _)
    rw [flowsR_at hj hl]
    split
    · grind
    · have hcj := cp j hj
      have hcl := cp l hl
      have q1 := carry_mul (A := standR gs) (κ := κ) (x := x) (B := standR gs') (j := j) (by grind)
      have q2 := carry_mul (A := standR gs) (κ := κ) (x := x) (B := standR gs') (j := l) (by grind)
      generalize carry (standR gs) (standR gs') κ x j = yj at *
      generalize carry (standR gs) (standR gs') κ x l = yl at *
      have J := jensen (l := (List.range (standR gs).length).flatMap fun i => (List.range (standR gs).length).map fun k => (i, k)) (ω := fun p => κ p.1 j * κ p.2 l) (d := fun p => x p.1 - x p.2) (O := ((standR gs')[j]!).2.1 * ((standR gs')[l]!).2.1) (D := yj - yl)
        (fun p hp => by
          obtain ⟨i, hi, hp⟩ := List.mem_flatMap.mp hp
          obtain ⟨k, hk, rfl⟩ := List.mem_map.mp hp
          exact Rat.mul_nonneg (K.nn _ _ (List.mem_range.mp hi) hj) (K.nn _ _ (List.mem_range.mp hk) hl))
      have dbl : ∀ f : Nat × Nat → Rat, S ((List.range (standR gs).length).flatMap fun i => (List.range (standR gs).length).map fun k => (i, k)) f = S (List.range (standR gs).length) fun i => S (List.range (standR gs).length) fun k => f (i, k) := fun f => by
        rw [List.flatMap_def, S_flatten, S_map]
        exact S_congr fun i _ => S_map
      rw [dbl, dbl, dbl] at J
      have r1 : S (List.range (standR gs).length) (fun i => S (List.range (standR gs).length) fun k => κ i j * κ k l) = ((standR gs')[j]!).2.1 * ((standR gs')[l]!).2.1 := by
        rw [← K.k1 j hj, ← K.k1 l hl, ← S_mulr]
        exact S_congr fun i _ => by rw [S_mul]
      have r2 : S (List.range (standR gs).length) (fun i => S (List.range (standR gs).length) fun k => κ i j * κ k l * (x i - x k)) = ((standR gs')[j]!).2.1 * ((standR gs')[l]!).2.1 * (yj - yl) := by
        have : S (List.range (standR gs).length) (fun i => S (List.range (standR gs).length) fun k => κ i j * κ k l * (x i - x k)) = S (List.range (standR gs).length) (fun i => κ i j * x i) * S (List.range (standR gs).length) (fun k => κ k l) - S (List.range (standR gs).length) (fun i => κ i j) * S (List.range (standR gs).length) (fun k => κ k l * x k) := by
          rw [← S_mulr, ← S_mulr, ← S_sub]
          refine S_congr fun i _ => ?_
          rw [← S_mul, ← S_mul, ← S_sub]
          exact S_congr fun k _ => by grind
        rw [this, K.k1 j hj, K.k1 l hl, ← q1, ← q2]; grind
      have J2 := J r1 r2
      have e3 : S (List.range (standR gs).length) (fun i => S (List.range (standR gs).length) fun k => κ i j * κ k l * minR rows ws (standR gs')[j]! (standR gs')[l]! * ((x i - x k) * (x i - x k))) = minR rows ws (standR gs')[j]! (standR gs')[l]! * S (List.range (standR gs).length) (fun i => S (List.range (standR gs).length) fun k => κ i j * κ k l * ((x i - x k) * (x i - x k))) := by
        rw [← S_mul]
        refine S_congr fun i _ => ?_
        rw [← S_mul]
        exact S_congr fun k _ => by grind
      rw [e3]
      have := Rat.mul_le_mul_of_nonneg_left J2 mn
      show flowR rows ws (standR gs')[j]! (standR gs')[l]! * _ ≤ _
      have ef : flowR rows ws (standR gs')[j]! (standR gs')[l]! = ((standR gs')[j]!).2.1 * ((standR gs')[l]!).2.1 * minR rows ws (standR gs')[j]! (standR gs')[l]! := rfl
      rw [ef]
      grind
  have tot : S (List.range (standR gs').length) (fun j => S (List.range (standR gs').length) fun l => fF (flowsR rows ws (standR gs')) j l * ((carry (standR gs) (standR gs') κ x j - carry (standR gs) (standR gs') κ x l) * (carry (standR gs) (standR gs') κ x j - carry (standR gs) (standR gs') κ x l))) ≤ S (List.range (standR gs).length) fun i => S (List.range (standR gs).length) fun k => fF (flowsR rows ws (standR gs)) i k * ((x i - x k) * (x i - x k)) := by
    refine Rat.le_trans (S_mono fun j hj => S_mono fun l hl => step j l (List.mem_range.mp hj) (List.mem_range.mp hl)) ?_
    have sw : S (List.range (standR gs').length) (fun j => S (List.range (standR gs').length) fun l => S (List.range (standR gs).length) fun i => S (List.range (standR gs).length) fun k => κ i j * κ k l * minR rows ws (standR gs')[j]! (standR gs')[l]! * ((x i - x k) * (x i - x k))) = S (List.range (standR gs).length) (fun i => S (List.range (standR gs).length) fun k => S (List.range (standR gs').length) fun j => S (List.range (standR gs').length) fun l => κ i j * κ k l * minR rows ws (standR gs')[j]! (standR gs')[l]! * ((x i - x k) * (x i - x k))) := by
      rw [S_congr (f := fun j => S (List.range (standR gs').length) fun l => S (List.range (standR gs).length) fun i => S (List.range (standR gs).length) fun k => κ i j * κ k l * minR rows ws (standR gs')[j]! (standR gs')[l]! * ((x i - x k) * (x i - x k))) fun j _ => S_swap, S_swap]
      refine S_congr fun i _ => ?_
      rw [S_congr (f := fun j => S (List.range (standR gs').length) fun l => S (List.range (standR gs).length) fun k => κ i j * κ k l * minR rows ws (standR gs')[j]! (standR gs')[l]! * ((x i - x k) * (x i - x k))) fun j _ => S_swap, S_swap]
    rw [sw]
    refine S_mono fun i hi => S_mono fun k hk => ?_
    have hi := List.mem_range.mp hi
    have hk := List.mem_range.mp hk
    by_cases e : i = k
    · subst e
      rw [S_zero' fun j _ => S_zero' fun l _ => by grind]
      grind
    · rw [flowsR_at hi hk, if_neg e]
      have e3 : S (List.range (standR gs').length) (fun j => S (List.range (standR gs').length) fun l => κ i j * κ k l * minR rows ws (standR gs')[j]! (standR gs')[l]! * ((x i - x k) * (x i - x k))) = S (List.range (standR gs').length) (fun j => S (List.range (standR gs').length) fun l => κ i j * κ k l * minR rows ws (standR gs')[j]! (standR gs')[l]!) * ((x i - x k) * (x i - x k)) := by
        rw [← S_mulr]
        refine S_congr fun j _ => ?_
        rw [← S_mulr]
      rw [e3]
      exact Rat.mul_le_mul_of_nonneg_right (K.flow h h' hi hk) (sq_nonneg _)
  rw [← e1, ← e2] at tot
  grind
/-- THE ORDER: the table of the more spread ones is more -/
theorem Cpl.qf_le (K : Cpl (standR gs) (standR gs') κ) (h : GG n rows ws gs) (h' : GG n rows ws gs') (c : Conn2 rows) (k : Nat → Rat) : Qf n (guessedR rows ws gs) k ≤ Qf n (guessedR rows ws gs') k := by
  have W0 := h.W0
  have q := h.quad k
  have q' := h'.quad k
  have v := var_max (h'.fsym c) (h'.fnn c) (g := fun j => S (List.range n) fun p => k p * gi ws gs' p j) (x := fun j => S (List.range n) fun q => k q * XX rows ws gs' q j) (fun j hj => h'.xk c k hj) (carry (standR gs) (standR gs') κ fun i => S (List.range n) fun q => k q * XX rows ws gs q i)
  have en := K.energy h h' c (fun i => S (List.range n) fun q => k q * XX rows ws gs q i)
  have e1 : S (List.range (standR gs).length) (fun i => S (List.range n) (fun q => k q * XX rows ws gs q i) * lap (standR gs).length (fF (flowsR rows ws (standR gs))) (fun i => S (List.range n) fun q => k q * XX rows ws gs q i) i) = S (List.range (standR gs).length) (fun i => S (List.range n) (fun p => k p * gi ws gs p i) * S (List.range n) (fun q => k q * XX rows ws gs q i)) := S_congr fun i hi => by rw [h.xk c k (List.mem_range.mp hi)]; grind
  rw [e1] at en
  have e2 : S (List.range (standR gs').length) (fun j => S (List.range n) (fun p => k p * gi ws gs' p j) * carry (standR gs) (standR gs') κ (fun i => S (List.range n) fun q => k q * XX rows ws gs q i) j) = S (List.range (standR gs).length) (fun i => S (List.range n) (fun p => k p * gi ws gs p i) * S (List.range n) (fun q => k q * XX rows ws gs q i)) := by
    generalize hx : (fun i => S (List.range n) fun q => k q * XX rows ws gs q i) = x
    have hxi : ∀ i, S (List.range n) (fun q => k q * XX rows ws gs q i) = x i := fun i => by rw [← hx]
    have ej : ∀ j, j < (standR gs').length → S (List.range n) (fun p => k p * gi ws gs' p j) * carry (standR gs) (standR gs') κ x j = S (List.range (standR gs).length) fun i => κ i j * ((standR gs')[j]!).2.2 * (ws[((standR gs)[i]!).1]! * (k ((standR gs)[i]!).1 - S (List.range n) fun p => sh ws p * k p) * x i) := fun j hj => by
      rw [h'.gk hj]
      have hc := (h'.sb (s := (standR gs')[j]!) (get_mem hj)).2.1.1
      have cm := carry_mul (A := standR gs) (κ := κ) (x := x) (B := standR gs') (j := j) (by grind)
      have : mass ws (standR gs')[j]! * (k ((standR gs')[j]!).1 - S (List.range n) fun p => sh ws p * k p) * carry (standR gs) (standR gs') κ x j = (ws[((standR gs')[j]!).1]! * ((standR gs')[j]!).2.2 * (k ((standR gs')[j]!).1 - S (List.range n) fun p => sh ws p * k p)) * (((standR gs')[j]!).2.1 * carry (standR gs) (standR gs') κ x j) := by unfold mass; grind
      rw [this, cm, ← S_mul]
      refine S_congr fun i hi => ?_
      rcases K.pl i j (List.mem_range.mp hi) hj with z | z
      · rw [z]; grind
      · rw [z]; grind
    rw [S_congr fun j hj => ej j (List.mem_range.mp hj), S_swap]
    refine S_congr fun i hi => ?_
    have hi := List.mem_range.mp hi
    rw [S_mulr, K.k3 i hi, h.gk hi, hxi i]
    unfold mass
    grind
  rw [e2] at v
  have fin : sumR ws * Qf n (guessedR rows ws gs) k ≤ sumR ws * Qf n (guessedR rows ws gs') k := by rw [q, q']; grind
  by_cases z : Qf n (guessedR rows ws gs) k ≤ Qf n (guessedR rows ws gs') k
  · exact z
  · exfalso
    have := Rat.mul_pos W0 (show 0 < Qf n (guessedR rows ws gs) k - Qf n (guessedR rows ws gs') k by grind)
    grind
end
end Gw
/-! Plain: the pairs of guesses are such. -/
namespace Gw
def kk (p : RwG × RwG) (u u' : Rat × Rat) : Rat := if p.1 = p.2 then (if u.2 = u'.2 then u.1 else 0) else if p.1 = gSure then u'.1 else u.1 * u.2 / u'.2
def posG (g : RwG) : List (Rat × Rat) := (g.map handed).filter fun u => decide (0 < u.2)
theorem kk_ok : ∀ p ∈ rwPs, (∀ u ∈ posG p.1, ∀ u' ∈ posG p.2, 0 ≤ kk p u u') ∧ (∀ u' ∈ posG p.2, ((posG p.1).map fun u => kk p u u').sum = u'.1) ∧ (∀ u ∈ posG p.1, ((posG p.2).map fun u' => kk p u u').sum ≤ u.1) ∧ (∀ u ∈ posG p.1, ((posG p.2).map fun u' => kk p u u' * u'.2).sum = u.1 * u.2) := by decide +kernel
def kap (ps : List (RwG × RwG)) (a b : St3) : Rat := if a.1 = b.1 then kk (ps[a.1]!) a.2 b.2 else 0
theorem ps_gs : ∀ p ∈ rwPs, p.1 ∈ rwGs ∧ p.2 ∈ rwGs := by decide +kernel
section
variable {n : Nat} {ps : List (RwG × RwG)}
theorem gQ_map {α : Type} [Inhabited α] {l : List α} {f : α → RwG} {i : Nat} (hi : i < l.length) : (gQ (l.map f))[i]! = (f l[i]!).map handed := by
  rw [gQ_at (by simpa using hi), getElem!_pos _ i (by simpa using hi), List.getElem_map, getElem!_pos l i hi]
theorem standOf_pos (i : Nat) (g : RwG) (f : St3 → Rat) : S (standOf (i, g.map handed)) f = S (posG g) fun u => f (i, u.1, u.2) := by
  unfold standOf posG
  rw [S_map]
/-- sums over standings of one place -/
theorem S_place {l : List (RwG × RwG)} {f : RwG × RwG → RwG} {q : Nat} (hq : q < l.length) (F : St3 → Rat) (h0 : ∀ a, a.1 ≠ q → F a = 0) : S (standR (gQ (l.map f))) F = S (posG (f l[q]!)) fun u => F (q, u.1, u.2) := by
  rw [standR_range, List.flatMap_def, S_flatten, S_map]
  have e : (gQ (l.map f)).length = l.length := by simp [gQ]
  rw [e, S_one (i := q) hq]
  · rw [gQ_map hq, standOf_pos]
  · intro j hj hne
    rw [gQ_map hj, standOf_pos]
    exact S_zero' fun u _ => h0 _ hne
theorem cpl (h : ∀ p ∈ ps, p ∈ rwPs) : Cpl (standR (nearQ ps)) (standR (farQ ps)) (fun i j => kap ps (standR (nearQ ps))[i]! (standR (farQ ps))[j]!) := by
  have nl : (nearQ ps).length = ps.length := by simp [nearQ, gQ]
  have fl : (farQ ps).length = ps.length := by simp [farQ, gQ]
  have mn : ∀ a ∈ standR (nearQ ps), a.1 < ps.length ∧ (a.2.1, a.2.2) ∈ posG (ps[a.1]!).1 := fun a ha => by
    obtain ⟨h1, h2, h3⟩ := (mem_stand _).mp ha
    rw [nl] at h1
    refine ⟨h1, ?_⟩
    unfold nearQ at h2
    rw [gQ_map h1] at h2
    exact List.mem_filter.mpr ⟨h2, by simpa using h3⟩
  have mf : ∀ a ∈ standR (farQ ps), a.1 < ps.length ∧ (a.2.1, a.2.2) ∈ posG (ps[a.1]!).2 := fun a ha => by
    obtain ⟨h1, h2, h3⟩ := (mem_stand _).mp ha
    rw [fl] at h1
    refine ⟨h1, ?_⟩
    unfold farQ at h2
    rw [gQ_map h1] at h2
    exact List.mem_filter.mpr ⟨h2, by simpa using h3⟩
  have pm : ∀ i, i < ps.length → ps[i]! ∈ rwPs := fun i hi => h _ (get_mem hi)
  refine ⟨fun i j hi hj => ?_, fun i j hi hj => ?_, fun j hj => ?_, fun i hi => ?_, fun i hi => ?_⟩
  · obtain ⟨a1, a2⟩ := mn _ (get_mem hi)
    obtain ⟨b1, b2⟩ := mf _ (get_mem hj)
    show 0 ≤ kap ps _ _
    unfold kap
    split
    · rename_i e
      rw [← e] at b2
      exact (kk_ok _ (pm _ a1)).1 _ a2 _ b2
    · exact Rat.le_refl
  · show kap ps _ _ = 0 ∨ _
    unfold kap
    by_cases e : ((standR (nearQ ps))[i]!).1 = ((standR (farQ ps))[j]!).1
    · exact .inr e
    · exact .inl (if_neg e)
  · obtain ⟨b1, b2⟩ := mf _ (get_mem hj)
    rw [← S_range (standR (nearQ ps)) (fun a => kap ps a (standR (farQ ps))[j]!)]
    unfold nearQ
    rw [S_place b1 (fun a => kap ps a (standR (farQ ps))[j]!) fun a ha => by unfold kap; exact if_neg ha]
    rw [← (kk_ok _ (pm _ b1)).2.1 _ b2]
    exact S_congr fun u _ => if_pos rfl
  · obtain ⟨a1, a2⟩ := mn _ (get_mem hi)
    rw [← S_range (standR (farQ ps)) (fun b => kap ps (standR (nearQ ps))[i]! b)]
    unfold farQ
    rw [S_place a1 (fun b => kap ps (standR (nearQ ps))[i]! b) fun b hb => by unfold kap; exact if_neg fun e => hb e.symm]
    have := (kk_ok _ (pm _ a1)).2.2.1 _ a2
    refine Rat.le_trans ?_ this
    have e : S (posG (ps[((standR (nearQ ps))[i]!).1]!).2) (fun u => kap ps (standR (nearQ ps))[i]! (((standR (nearQ ps))[i]!).1, u.1, u.2)) = ((posG (ps[((standR (nearQ ps))[i]!).1]!).2).map fun u' => kk ps[((standR (nearQ ps))[i]!).1]! (((standR (nearQ ps))[i]!).2.1, ((standR (nearQ ps))[i]!).2.2) u').sum := S_congr fun u _ => if_pos rfl
    rw [e]
    exact Rat.le_refl
  · obtain ⟨a1, a2⟩ := mn _ (get_mem hi)
    rw [← S_range (standR (farQ ps)) (fun b => kap ps (standR (nearQ ps))[i]! b * b.2.2)]
    unfold farQ
    rw [S_place a1 (fun b => kap ps (standR (nearQ ps))[i]! b * b.2.2) fun b hb => by unfold kap; rw [if_neg fun e => hb e.symm]; grind]
    have := (kk_ok _ (pm _ a1)).2.2.2 _ a2
    rw [← this]
    refine S_congr fun u _ => ?_
    unfold kap
    rw [if_pos rfl]
end
end Gw
/-! Plain: forms whose rows add up to 0, without worths below 0, and their sizes. -/
namespace Gw
theorem S2 (f : Nat → Rat) : S (List.range 2) f = f 0 + f 1 := by
  show S [0, 1] f = _
  rw [S_cons, S_cons, S_nil]; grind
theorem S3 (f : Nat → Rat) : S (List.range 3) f = f 0 + f 1 + f 2 := by
  show S [0, 1, 2] f = _
  rw [S_cons, S_cons, S_cons, S_nil]; grind
theorem Bt.mul {B C : Nat} {x y : Rat} (h : Bt B x) (k : Bt C y) : Bt (B * C) (x * y) := by
  obtain ⟨h1, h2⟩ := h
  obtain ⟨k1, k2⟩ := k
  unfold Bt
  rw [Rat.natCast_mul]
  have p1 := Rat.mul_nonneg (show 0 ≤ ((B : Nat) : Rat) - x by grind) (show 0 ≤ ((C : Nat) : Rat) - y by grind)
  have p2 := Rat.mul_nonneg (show 0 ≤ ((B : Nat) : Rat) + x by grind) (show 0 ≤ ((C : Nat) : Rat) + y by grind)
  have p3 := Rat.mul_nonneg (show 0 ≤ ((B : Nat) : Rat) - x by grind) (show 0 ≤ ((C : Nat) : Rat) + y by grind)
  have p4 := Rat.mul_nonneg (show 0 ≤ ((B : Nat) : Rat) + x by grind) (show 0 ≤ ((C : Nat) : Rat) - y by grind)
  constructor <;> grind
theorem Bt.add {B C : Nat} {x y : Rat} (h : Bt B x) (k : Bt C y) : Bt (B + C) (x + y) := by
  obtain ⟨h1, h2⟩ := h
  obtain ⟨k1, k2⟩ := k
  unfold Bt
  rw [Rat.natCast_add]
  constructor <;> grind
theorem Bt.neg {B : Nat} {x : Rat} (h : Bt B x) : Bt B (-x) := by
  obtain ⟨h1, h2⟩ := h
  constructor <;> grind
theorem Bt.sub {B C : Nat} {x y : Rat} (h : Bt B x) (k : Bt C y) : Bt (B + C) (x - y) := by
  rw [Rat.sub_eq_add_neg]; exact h.add k.neg
theorem Bt.up {B C : Nat} {x : Rat} (h : Bt B x) (k : B ≤ C) : Bt C x := by
  obtain ⟨h1, h2⟩ := h
  have := Rat.natCast_le_natCast.mpr k
  constructor <;> grind
theorem Bt.S {α : Type} {B : Nat} {l : List α} {f : α → Rat} (h : ∀ a ∈ l, Bt B (f a)) : Bt (l.length * B) (S l f) := by
  induction l with
  | nil => rw [S_nil]; exact ⟨by simp, by simp⟩
  | cons a l ih =>
    rw [S_cons, List.length_cons, Nat.succ_mul, Nat.add_comm]
    exact (h a (by simp)).add (ih fun b hb => h b (by simp [hb]))
theorem bt_01 {x : Rat} (h0 : 0 ≤ x) (h1 : x ≤ 1) : Bt 1 x := Bt.of h0 h1
/-- a form of two or three places -/
structure Frm (n : Nat) (M : List (List Rat)) (D B : Nat) : Prop where
  n2 : n = 2 ∨ n = 3
  l : M.length = n
  sq : ∀ r ∈ M, r.length = n
  sym : ∀ p q, p < n → q < n → (M[p]!)[q]! = (M[q]!)[p]!
  row : ∀ p, p < n → S (List.range n) (fun q => (M[p]!)[q]!) = 0
  psd : ∀ k, 0 ≤ Qf n M k
  z : ∀ p q, p < n → q < n → IsF D (M[p]!)[q]! ∧ Bt B (M[p]!)[q]!
  D0 : 0 < D
  Dl : D < 2 ^ 1252
  Bl : B ≤ 2 ^ 647
theorem pw (a b : Nat) : (2 : Nat) ^ a * 2 ^ b = 2 ^ (a + b) := (Nat.pow_add 2 a b).symm
section
variable {n D B : Nat} {M : List (List Rat)}
namespace Frm
variable (h : Frm n M D B)
include h
theorem bd {C k : Nat} {x : Rat} (hF : IsF D x) (hb : Bt (C * B) x) (hC : C ≤ 2 ^ 10) : Sz 2000 x := by
  refine sz_of hF hb h.D0 (Nat.lt_of_lt_of_le h.Dl (Nat.pow_le_pow_right (by omega) (by omega))) ?_
  calc C * B * D ≤ 2 ^ 10 * 2 ^ 647 * 2 ^ 1252 := Nat.mul_le_mul (Nat.mul_le_mul hC h.Bl) (Nat.le_of_lt h.Dl)
    _ = 2 ^ 1909 := by rw [pw, pw]
    _ < 2 ^ 2000 := Nat.pow_lt_pow_right (by omega) (by omega)
theorem sz {p q : Nat} (hp : p < n) (hq : q < n) : Sz 2000 (M[p]!)[q]! := h.bd (C := 1) (k := 0) (h.z p q hp hq).1 (by rw [Nat.one_mul]; exact (h.z p q hp hq).2) (by decide)
theorem rl {p : Nat} (hp : p < n) : (M[p]!).length = n := h.sq _ (get_mem (by rw [h.l]; exact hp))
theorem psd2 (x y : Rat) : 0 ≤ x * x * (M[0]!)[0]! + 2 * (x * y) * (M[0]!)[1]! + y * y * (M[1]!)[1]! := by
  have p := h.psd (fun i => if i = 0 then x else if i = 1 then y else 0)
  have s := h.sym 0 1 (by have := h.n2; omega) (by have := h.n2; omega)
  unfold Qf at p
  rcases h.n2 with rfl | rfl
  · rw [S2, S2, S2] at p
    simp only [if_pos, if_neg, Nat.one_ne_zero] at p
    rw [← s] at p
    grind
  · rw [S3, S3, S3, S3] at p
    simp only [if_pos, if_neg, Nat.one_ne_zero, reduceIte, show ¬ (2 : Nat) = 0 by decide, show ¬ (2 : Nat) = 1 by decide] at p
    rw [← s] at p
    grind
theorem a0 : 0 ≤ (M[0]!)[0]! := by have := h.psd2 1 0; grind
theorem d0 : 0 ≤ (M[1]!)[1]! := by have := h.psd2 0 1; grind
theorem b_zero (ha : (M[0]!)[0]! = 0) : (M[0]!)[1]! = 0 := by
  have p := h.psd2 (-((M[1]!)[1]! + 1)) (2 * (M[0]!)[1]!)
  rw [ha] at p
  generalize (M[0]!)[1]! = b at *
  generalize (M[1]!)[1]! = d at *
  have p2 : 0 ≤ -(4 * (b * b)) := by grind
  have p3 := sq_nonneg b
  have p4 : b * b = 0 := by grind
  rcases Rat.mul_eq_zero.mp p4 with q | q <;> exact q
theorem minor : 0 ≤ (M[0]!)[0]! * (M[1]!)[1]! - (M[0]!)[1]! * (M[0]!)[1]! := by
  have a0 := h.a0
  by_cases ha : (M[0]!)[0]! = 0
  · rw [h.b_zero ha, ha]; grind
  · have p := h.psd2 (-(M[0]!)[1]!) (M[0]!)[0]!
    generalize (M[0]!)[0]! = a at *
    generalize (M[0]!)[1]! = b at *
    generalize (M[1]!)[1]! = d at *
    have p2 : 0 ≤ a * (a * d - b * b) := by grind
    by_cases z : 0 ≤ a * d - b * b
    · exact z
    · exfalso
      have := Rat.mul_pos (show 0 < a by grind) (show 0 < -(a * d - b * b) by grind)
      grind
theorem lawF : LawF M := by
  have hn := h.n2
  have s := h.sym 0 1 (by omega) (by omega)
  have z00 := h.sz (p := 0) (q := 0) (by omega) (by omega)
  have z01 := h.sz (p := 0) (q := 1) (by omega) (by omega)
  have z10 := h.sz (p := 1) (q := 0) (by omega) (by omega)
  have z11 := h.sz (p := 1) (q := 1) (by omega) (by omega)
  refine ⟨by rw [h.l]; exact hn, fun r hr => by rw [h.l]; exact h.sq r hr, h.a0, h.d0, z00.fits z11 (by decide), z01.fits z10 (by decide), (z00.mul z11).fits (z01.mul z10) (by decide), ?_⟩
  have := h.minor
  rw [← s]
  exact this
theorem formP : FormP M := by
  have hn := h.n2
  refine ⟨by rw [h.l]; omega, by rw [h.l]; omega, fun r hr => by rw [h.l]; exact h.sq r hr, ?_⟩
  unfold turnR
  rw [h.rl (p := 0) (by omega)]
  apply List.ext_getElem
  · simp [h.l]
  · intro p h1 h2
    have hp : p < n := by rw [← h.l]; exact h1
    rw [List.getElem_map, List.getElem_range]
    apply List.ext_getElem
    · rw [List.length_map, h.l, h.sq _ (List.getElem_mem h1)]
    · intro q h3 h4
      have hq : q < n := by rw [← h.sq _ (List.getElem_mem h1)]; exact h3
      rw [List.getElem_map]
      have e1 : (M[p]!)[q]! = M[p][q] := by
        rw [getElem!_pos M p h1, getElem!_pos _ q h3]
      have hqm : q < M.length := by rw [h.l]; exact hq
      have e2 : (M[q]!)[p]! = (M[q]'hqm)[p]! := by rw [getElem!_pos M q hqm]
      rw [← e1, h.sym p q hp hq, e2]
/-! ### what functions are worth -/
theorem dot_S {xs ys : List Rat} {k : Nat} (hx : xs.length = k) (hy : ys.length = k) : dotR xs ys = S (List.range k) (fun i => xs[i]! * ys[i]!) := by
  unfold dotR dotL
  rw [sumR_S, S_map, S_filter]
  · rw [S_range, List.length_zip, hx, hy, Nat.min_self]
    refine S_congr fun i hi => ?_
    have hi := List.mem_range.mp hi
    rw [getElem!_pos _ i (by rw [List.length_zip]; omega), List.getElem_zip, getElem!_pos xs i (by omega), getElem!_pos ys i (by omega)]
  · intro q _ hf
    have : q.1 = 0 := by simpa using hf
    rw [this]; grind
theorem led_len (xs : List Rat) : (ledR M xs).length = n := by simp [ledR, h.l]
theorem led_at {xs : List Rat} (hx : xs.length = n) {p : Nat} (hp : p < n) : (ledR M xs)[p]! = S (List.range n) (fun q => (M[p]!)[q]! * xs[q]!) := by
  have hp2 : p < M.length := by rw [h.l]; exact hp
  rw [getElem!_pos _ p (by rw [h.led_len]; exact hp)]
  unfold ledR
  rw [List.getElem_map, ← getElem!_pos M p hp2]
  exact h.dot_S (h.rl hp) hx
theorem wor_Q {xs : List Rat} (hx : xs.length = n) : worthR M xs = Qf n M (fun i => xs[i]!) := by
  unfold worthR
  rw [h.dot_S hx (h.led_len xs)]
  unfold Qf
  refine S_congr fun p hp => ?_
  rw [h.led_at hx (List.mem_range.mp hp), ← S_mul]
  exact S_congr fun q _ => by grind
theorem worP {xs : List Int} (hx : xs.length = n) (hb : ∀ x ∈ xs, -3 ≤ x ∧ x ≤ 3) : WorP M (intsQ xs) ∧ Sz 2000 (worthR M (intsQ xs)) := by
  have hn := h.n2
  have xl : (intsQ xs).length = n := by simp [intsQ, hx]
  have xz : ∀ y ∈ intsQ xs, Sz 3 y ∧ Bt 3 y ∧ ∃ i : Int, y = (i : Rat) := fun y hy => by
    obtain ⟨i, hi, rfl⟩ := List.mem_map.mp hy
    have := hb i hi
    refine ⟨Sz.int (by decide) (by omega), ⟨?_, ?_⟩, i, rfl⟩
    · have : ((-3 : Int) : Rat) ≤ (i : Rat) := Rat.intCast_le_intCast.mpr this.1
      exact this
    · have : (i : Rat) ≤ ((3 : Int) : Rat) := Rat.intCast_le_intCast.mpr this.2
      exact this
  have mul : ∀ {u y : Rat} {C : Nat}, IsF D u → Bt C u → y ∈ intsQ xs → IsF D (u * y) ∧ Bt (C * 3) (u * y) := fun {u y C} hu hC hy => by
    obtain ⟨_, b, i, e⟩ := xz y hy
    refine ⟨?_, hC.mul b⟩
    have := hu.mul (isF_int 1 i)
    rw [Nat.mul_one] at this
    rw [e]; exact this
  have led : ∀ p, p < n → IsF D (ledR M (intsQ xs))[p]! ∧ Bt (9 * B) (ledR M (intsQ xs))[p]! := fun p hp => by
    rw [h.led_at xl hp]
    have e : ∀ q ∈ List.range n, IsF D ((M[p]!)[q]! * (intsQ xs)[q]!) ∧ Bt (B * 3) ((M[p]!)[q]! * (intsQ xs)[q]!) := fun q hq => by
      have hq := List.mem_range.mp hq
      exact mul (h.z p q hp hq).1 (h.z p q hp hq).2 (get_mem (by omega))
    refine ⟨IsF.S fun q hq => (e q hq).1, (Bt.S fun q hq => (e q hq).2).up ?_⟩
    rw [List.length_range]
    calc n * (B * 3) ≤ 3 * (B * 3) := Nat.mul_le_mul_right _ (by omega)
      _ = 9 * B := by omega
  have wq : IsF D (worthR M (intsQ xs)) ∧ Bt (81 * B) (worthR M (intsQ xs)) := by
    unfold worthR
    rw [h.dot_S xl (h.led_len _)]
    have e : ∀ p ∈ List.range n, IsF D ((intsQ xs)[p]! * (ledR M (intsQ xs))[p]!) ∧ Bt (9 * B * 3) ((intsQ xs)[p]! * (ledR M (intsQ xs))[p]!) := fun p hp => by
      have hp := List.mem_range.mp hp
      rw [Rat.mul_comm]
      exact mul (led p hp).1 (led p hp).2 (get_mem (by omega))
    refine ⟨IsF.S fun q hq => (e q hq).1, (Bt.S fun q hq => (e q hq).2).up ?_⟩
    rw [List.length_range]
    calc n * (9 * B * 3) ≤ 3 * (9 * B * 3) := Nat.mul_le_mul_right _ (by omega)
      _ = 81 * B := by omega
  refine ⟨⟨by rw [xl, h.l], fun r hr => ?_, ?_⟩, h.bd (C := 81) (k := 0) wq.1 wq.2 (by decide)⟩
  · obtain ⟨p, hp, e⟩ := List.mem_iff_getElem.mp hr
    have hpn : p < n := by rw [← h.l]; exact hp
    have rz : ∀ y ∈ r, Sz 2000 y := fun y hy => by
      obtain ⟨q, hq, e2⟩ := List.mem_iff_getElem.mp hy
      have hqn : q < n := by rw [← h.sq r hr]; exact hq
      have := h.sz hpn hqn
      rw [getElem!_pos M p hp, e, getElem!_pos r q hq, e2] at this
      exact this
    have rl := h.sq r hr
    refine ⟨fun q hq => ?_, FitsL.zero (n := 2003) (fun y hy => ?_) ?_, by omega⟩
    · obtain ⟨m1, m2⟩ := List.of_mem_zip hq
      exact (rz _ m1).fits (xz _ m2).1 (by decide)
    · obtain ⟨q, hq, rfl⟩ := List.mem_map.mp hy
      obtain ⟨m1, m2⟩ := List.of_mem_zip (List.mem_filter.mp hq).1
      exact (rz _ m1).mul (xz _ m2).1
    · have : (dotL r (intsQ xs)).length ≤ n := by
        unfold dotL
        rw [List.length_map]
        refine Nat.le_trans (List.length_filter_le _ _) ?_
        rw [List.length_zip]; omega
      omega
  · have lz : ∀ y ∈ ledR M (intsQ xs), IsF D y ∧ Bt (9 * B) y := fun y hy => by
      obtain ⟨q, hq, e2⟩ := List.mem_iff_getElem.mp hy
      have hqn : q < n := by rw [← h.led_len (intsQ xs)]; exact hq
      have := led q hqn
      rw [getElem!_pos _ q hq, e2] at this
      exact this
    refine ⟨fun q hq => ?_, FitsL.zero (n := 2000) (fun y hy => ?_) ?_, by omega⟩
    · obtain ⟨m1, m2⟩ := List.of_mem_zip hq
      exact (xz _ m1).1.fits (h.bd (C := 9) (k := 0) (lz _ m2).1 (lz _ m2).2 (by decide)) (by decide)
    · obtain ⟨q, hq, rfl⟩ := List.mem_map.mp hy
      obtain ⟨m1, m2⟩ := List.of_mem_zip (List.mem_filter.mp hq).1
      have e := mul (lz _ m2).1 (lz _ m2).2 m1
      rw [Rat.mul_comm]
      exact h.bd (C := 27) (k := 0) e.1 (e.2.up (by omega)) (by decide)
    · have : (dotL (intsQ xs) (ledR M (intsQ xs))).length ≤ n := by
        unfold dotL
        rw [List.length_map]
        refine Nat.le_trans (List.length_filter_le _ _) ?_
        rw [List.length_zip]; omega
      omega
end Frm
end
end Gw
/-! Plain: such a form is parted into squares. -/
namespace Gw
section
variable {n : Nat} {L : List (List Rat)}
structure Dim (n : Nat) (L : List (List Rat)) : Prop where
  l : L.length = n
  sq : ∀ r ∈ L, r.length = n
theorem Dim.rl (h : Dim n L) {p : Nat} (hp : p < n) : (L[p]!).length = n := h.sq _ (get_mem (by rw [h.l]; exact hp))
theorem sqR_len (h : Dim n L) {k : Nat} (hk : k < n) : (sqR L k).length = n := by unfold sqR; rw [List.length_map, h.rl hk]
theorem sqR_at (h : Dim n L) {k j : Nat} (hk : k < n) (hj : j < n) : (sqR L k)[j]! = (L[k]!)[j]! / (L[k]!)[k]! := by
  have hj2 : j < (L[k]!).length := by rw [h.rl hk]; exact hj
  rw [getElem!_pos _ j (by rw [sqR_len h hk]; exact hj), getElem!_pos (L[k]!) j hj2]
  unfold sqR
  rw [List.getElem_map]
theorem wsR_dim (h : Dim n L) {k : Nat} {row : List Rat} {num : Rat} (hr : row.length = n) : Dim n (wsR L k row num) := by
  refine ⟨by unfold wsR; rw [wsI_len, h.l], fun r hr2 => ?_⟩
  obtain ⟨i, hi, e⟩ := List.mem_iff_getElem.mp hr2
  have hin : i < L.length := by unfold wsR at hi; rw [wsI_len] at hi; exact hi
  have hm : L[i]! ∈ L := get_mem hin
  rw [← e, ← getElem!_pos (wsR L k row num) i hi]
  unfold wsR
  rw [wsI_at hin]
  split
  · unfold wsRow
    rw [List.length_map, List.length_zip, h.sq _ hm, hr, Nat.min_self]
  · exact h.sq _ hm
theorem wsR_at (h : Dim n L) {k : Nat} {row : List Rat} {num : Rat} (hr : row.length = n) {i j : Nat} (hi : i < n) (hj : j < n) : ((wsR L k row num)[i]!)[j]! = (L[i]!)[j]! - (if k ≤ i then num * row[i]! * row[j]! else 0) := by
  have hin : i < L.length := by rw [h.l]; exact hi
  have hl := h.rl hi
  unfold wsR
  rw [wsI_at hin]
  by_cases q : k ≤ i ∧ i < L.length ∧ row[i]! ≠ 0
  · rw [if_pos q, if_pos q.1]
    unfold wsRow
    rw [getElem!_pos _ j (by rw [List.length_map, List.length_zip]; omega), List.getElem_map, List.getElem_zip, getElem!_pos (L[i]!) j (by omega), getElem!_pos row j (by omega)]
  · rw [if_neg q]
    by_cases z : k ≤ i
    · have : row[i]! = 0 := by
        by_cases y : row[i]! = 0
        · exact y
        · exact absurd ⟨z, hin, y⟩ q
      rw [if_pos z, this]; grind
    · rw [if_neg z]; grind
theorem left_dim (h : Dim n L) : ∀ k, k ≤ n → Dim n (leftR L k)
  | 0, _ => h
  | k + 1, hk => by
    have d := left_dim h k (by omega)
    show Dim n (if _ then _ else _)
    split
    · exact wsR_dim d (sqR_len d (by omega))
    · exact d
/-- what stands at a step -/
theorem left_at (h : Dim n L) {k i j : Nat} (hk : k < n) (hi : i < n) (hj : j < n) : ((leftR L (k + 1))[i]!)[j]! = if 0 < ((leftR L k)[k]!)[k]! then ((leftR L k)[i]!)[j]! - (if k ≤ i then ((leftR L k)[k]!)[k]! * (((leftR L k)[k]!)[i]! / ((leftR L k)[k]!)[k]!) * (((leftR L k)[k]!)[j]! / ((leftR L k)[k]!)[k]!) else 0) else ((leftR L k)[i]!)[j]! := by
  have d := left_dim h k (by omega)
  show ((if 0 < ((leftR L k)[k]!)[k]! then wsR (leftR L k) k (sqR (leftR L k) k) ((leftR L k)[k]!)[k]! else leftR L k)[i]!)[j]! = _
  split
  · rw [wsR_at d (sqR_len d hk) hi hj, sqR_at d hk hi, sqR_at d hk hj]
  · rfl
theorem mem_ent (h : Dim n L) {k : Nat} (hk : k < n) {P : Rat → Prop} (hp : ∀ j, j < n → P ((L[k]!)[j]!)) : ∀ x ∈ L[k]!, P x := fun x hx => by
  obtain ⟨j, hj, e⟩ := List.mem_iff_getElem.mp hx
  have hjn : j < n := by rw [← h.rl hk]; exact hj
  have := hp j hjn
  rw [getElem!_pos _ j hj, e] at this
  exact this
/-- one step's sizes -/
theorem step_ok (h : Dim n L) {k m : Nat} (hk : k < n) (hn : n ≤ 3) (h0 : 0 < (L[k]!)[k]!) {w : Nat} (f0 : ∀ j, j < n → Sz m (L[k]!)[j]!) (f1 : ∀ j, j < n → Sz w ((L[k]!)[j]! / (L[k]!)[k]!)) (f2 : ∀ i j, k ≤ i → i < n → j < n → Fits (L[i]!)[j]! ((L[k]!)[i]! * ((L[k]!)[j]! / (L[k]!)[k]!))) (hm : m + m ≤ 9000) (hw : m + w ≤ 9000) :
    (∀ x ∈ L[k]!, FitsO x (L[k]!)[k]!) ∧ WsP L k (sqR L k) (L[k]!)[k]! := by
  have hz : (L[k]!)[k]! ≠ 0 := by grind
  refine ⟨mem_ent h hk fun j hj => (f0 j hj).fitsO (f0 k hk) hz hm, ⟨by rw [h.l]; omega, fun r hr => by rw [h.l]; exact h.sq r hr, by rw [sqR_len h hk, h.l], by rw [h.l]; omega, fun a ha hal => ?_, fun a ha hal q hq => ?_⟩⟩
  · rw [h.l] at hal
    rw [sqR_at h hk hal]
    exact (f0 k hk).fits (f1 a hal) hw
  · rw [h.l] at hal
    obtain ⟨j, hj, e⟩ := List.mem_iff_getElem.mp hq
    rw [List.length_zip, h.rl hal, sqR_len h hk, Nat.min_self] at hj
    have e1 : q.1 = (L[a]!)[j]! := by
      rw [← e, List.getElem_zip, getElem!_pos _ j (by rw [h.rl hal]; exact hj)]
    have e2 : q.2 = (L[k]!)[j]! / (L[k]!)[k]! := by
      rw [← e, List.getElem_zip, ← sqR_at h hk hj, getElem!_pos _ j (by rw [sqR_len h hk]; exact hj)]
    have e3 : (L[k]!)[k]! * (sqR L k)[a]! = (L[k]!)[a]! := by
      rw [sqR_at h hk hal, Rat.mul_comm, Rat.div_mul_cancel hz]
    rw [e3, e1, e2]
    exact ⟨(f0 a hal).fits (f1 j hj) hw, f2 a j ha hal hj⟩
end
theorem schur {a b d i : Rat} (inv : a * i = 1) : (a * d - b * b) * i = d - b * b * i := by
  have : (a * d - b * b) * i = d * (a * i) - b * b * i := by grind
  rw [this, inv]; grind
theorem schur2 {a b d i D : Rat} (inv : a * i = 1) : (d - b * b * i) * (a * D * D) = d * D * (a * D) - b * D * (b * D) := by
  have : (d - b * b * i) * (a * D * D) = d * D * (a * D) - b * D * (b * D) * (a * i) := by grind
  rw [this, inv]; grind
theorem div_self' {a : Rat} (h : a ≠ 0) : a / a = 1 := by rw [Rat.div_def, Rat.mul_inv_cancel _ h]
theorem neg_div_self {a : Rat} (h : a ≠ 0) : -a / a = -1 := by
  rw [Rat.div_def]
  have := Rat.mul_inv_cancel _ h
  grind
theorem zero_div' (a : Rat) : 0 / a = 0 := by rw [Rat.div_def, Rat.zero_mul]
theorem mul_div_mul {a b c : Rat} (h : a ≠ 0) : a * (b / a) * (c / a) = b * c / a := by
  rw [Rat.div_def, Rat.div_def, Rat.div_def]
  have := Rat.mul_inv_cancel _ h
  grind
section
variable {n D B : Nat} {M : List (List Rat)}
namespace Frm
variable (h : Frm n M D B)
include h
theorem dim : Dim n M := ⟨h.l, h.sq⟩
/-- the first step's sizes -/
theorem step0 (h0 : 0 < (M[0]!)[0]!) : (∀ x ∈ (M[0]!), FitsO x (M[0]!)[0]!) ∧ WsP M 0 (sqR M 0) (M[0]!)[0]! := by
  have hn := h.n2
  have f1 : ∀ j, j < n → Sz 4000 ((M[0]!)[j]! / (M[0]!)[0]!) := fun j hj => (h.sz (by omega) hj).div (h.sz (by omega) (by omega)) (by grind)
  exact step_ok (m := 2000) (w := 4000) h.dim (by omega) (by omega) h0 (fun j hj => h.sz (by omega) hj) f1 (fun i j _ hi hj => (h.sz hi hj).fits ((h.sz (by omega) hi).mul (f1 j hj)) (by decide)) (by decide) (by decide)
theorem zer0 (h0 : ¬ 0 < (M[0]!)[0]!) : ∀ j, j < n → (M[0]!)[j]! = 0 := by
  have hn := h.n2
  have a0 : (M[0]!)[0]! = 0 := by have := h.a0; grind
  have b0 := h.b_zero a0
  have r := h.row 0 (by omega)
  rcases hn with rfl | rfl
  · intro j hj
    match j, hj with
    | 0, _ => exact a0
    | 1, _ => exact b0
  · rw [S3, a0, b0] at r
    intro j hj
    match j, hj with
    | 0, _ => exact a0
    | 1, _ => exact b0
    | 2, _ => grind
/-- entries behind the first step -/
theorem ent1 {i j : Nat} (hi : i < n) (hj : j < n) : ((leftR M 1)[i]!)[j]! = if 0 < (M[0]!)[0]! then (M[i]!)[j]! - (M[0]!)[i]! * (M[0]!)[j]! / (M[0]!)[0]! else (M[i]!)[j]! := by
  have hn := h.n2
  rw [left_at (k := 0) h.dim (by omega) hi hj]
  show (if 0 < (M[0]!)[0]! then (M[i]!)[j]! - (if 0 ≤ i then (M[0]!)[0]! * ((M[0]!)[i]! / (M[0]!)[0]!) * ((M[0]!)[j]! / (M[0]!)[0]!) else 0) else (M[i]!)[j]!) = _
  split
  · rename_i h0
    rw [if_pos (Nat.zero_le _), mul_div_mul (by grind)]
  · rfl
end Frm
theorem part2 (h : Frm 2 M D B) : PartP M := by
  have d := h.dim
  have r0 := h.row 0 (by decide)
  have r1 := h.row 1 (by decide)
  have s := h.sym 0 1 (by decide) (by decide)
  rw [S2] at r0 r1
  have z1 : ∀ i j, i < 2 → j < 2 → ((leftR M 1)[i]!)[j]! = 0 := fun i j hi hj => by
    rw [h.ent1 hi hj]
    split
    · rename_i h0
      have hz : (M[0]!)[0]! ≠ 0 := by grind
      have e1 : (M[0]!)[1]! = -(M[0]!)[0]! := by grind
      have e2 : (M[1]!)[0]! = -(M[0]!)[0]! := by grind
      have e3 : (M[1]!)[1]! = (M[0]!)[0]! := by grind
      have inv := Rat.mul_inv_cancel _ hz
      match i, j, hi, hj with
      | 0, 0, _, _ => rw [Rat.div_def]; grind
      | 0, 1, _, _ => rw [e1, Rat.div_def]; grind
      | 1, 0, _, _ => rw [e2, e1, Rat.div_def]; grind
      | 1, 1, _, _ => rw [e3, e1, Rat.div_def]; grind
    · rename_i h0
      have z := h.zer0 h0
      have z0 := z 0 (by decide)
      have z1 := z 1 (by decide)
      match i, j, hi, hj with
      | 0, 0, _, _ => exact z0
      | 0, 1, _, _ => exact z1
      | 1, 0, _, _ => rw [← s]; exact z1
      | 1, 1, _, _ => grind
  refine ⟨by rw [h.l]; decide, fun k hk => ?_, fun k hk hp => ?_, fun k hk hp => ?_⟩
  · rw [h.l] at hk ⊢
    have := left_dim d k hk
    exact ⟨this.l, this.sq⟩
  · rw [h.l] at hk
    match k, hk with
    | 0, _ => exact h.step0 hp
    | 1, _ => rw [z1 1 1 (by decide) (by decide)] at hp; exact absurd hp (by decide)
  · rw [h.l] at hk
    match k, hk with
    | 0, _ => exact mem_ent (P := fun x => x = 0) d (by decide) (h.zer0 hp)
    | 1, _ => exact mem_ent (P := fun x => x = 0) (left_dim d 1 (by decide)) (by decide) fun j hj => z1 1 j (by decide) hj
def tt (i : Nat) : Rat := if i = 0 then 0 else if i = 1 then 1 else -1
theorem part3 (h : Frm 3 M D B) : PartP M := by
  have d := h.dim
  have r0 := h.row 0 (by decide)
  have r1 := h.row 1 (by decide)
  have r2 := h.row 2 (by decide)
  have s01 := h.sym 0 1 (by decide) (by decide)
  have s02 := h.sym 0 2 (by decide) (by decide)
  have s12 := h.sym 1 2 (by decide) (by decide)
  rw [S3] at r0 r1 r2
  -- behind the first step one number is left
  have one : ∃ x : Rat, 0 ≤ x ∧ Sz 4400 x ∧ ∀ i j, i < 3 → j < 3 → ((leftR M 1)[i]!)[j]! = x * tt i * tt j := by
    by_cases h0 : 0 < (M[0]!)[0]!
    · have hz : (M[0]!)[0]! ≠ 0 := by grind
      have inv := Rat.mul_inv_cancel _ hz
      refine ⟨(M[1]!)[1]! - (M[0]!)[1]! * (M[0]!)[1]! / (M[0]!)[0]!, ?_, ?_, fun i j hi hj => ?_⟩
      · have m := h.minor
        have ip : 0 ≤ ((M[0]!)[0]!)⁻¹ := by
          have := Rat.inv_pos (a := (M[0]!)[0]!)
          grind
        have := Rat.mul_nonneg m ip
        rw [schur inv] at this
        rw [Rat.div_def]
        exact this
      · -- its size
        obtain ⟨fa, ba⟩ := h.z 0 0 (by decide) (by decide)
        obtain ⟨fb, bb⟩ := h.z 0 1 (by decide) (by decide)
        obtain ⟨fd, bd⟩ := h.z 1 1 (by decide) (by decide)
        obtain ⟨α, hα⟩ := fa
        have hD : (0 : Rat) < ((D : Nat) : Rat) := by
          have := Rat.natCast_lt_natCast.mpr h.D0
          exact this
        have α0 : 0 < α := by
          have : (0 : Rat) < ((α : Int) : Rat) := by rw [← hα]; exact Rat.mul_pos h0 hD
          exact Rat.intCast_pos.mp this
        have αle : α.natAbs ≤ B * D := by
          have : ((α : Int) : Rat) ≤ (((B * D : Nat) : Int) : Rat) := by
            rw [← hα]
            have e : (((B * D : Nat) : Int) : Rat) = ((B : Nat) : Rat) * ((D : Nat) : Rat) := Rat.natCast_mul B D
            rw [e]
            exact Rat.mul_le_mul_of_nonneg_right ba.2 (by grind)
          have := Rat.intCast_le_intCast.mp this
          omega
        have m := h.minor
        have ip : 0 ≤ ((M[0]!)[0]!)⁻¹ := by
          have := Rat.inv_pos (a := (M[0]!)[0]!)
          grind
        have x0 : 0 ≤ (M[1]!)[1]! - (M[0]!)[1]! * (M[0]!)[1]! / (M[0]!)[0]! := by
          have := Rat.mul_nonneg m ip
          rw [schur inv] at this
          rw [Rat.div_def]
          exact this
        have xle : (M[1]!)[1]! - (M[0]!)[1]! * (M[0]!)[1]! / (M[0]!)[0]! ≤ ((B : Nat) : Rat) := by
          have := Rat.mul_nonneg (sq_nonneg (M[0]!)[1]!) ip
          rw [Rat.div_def]
          have := bd.2
          grind
        have xF : IsF (α.natAbs * D) ((M[1]!)[1]! - (M[0]!)[1]! * (M[0]!)[1]! / (M[0]!)[0]!) := by
          obtain ⟨β, hβ⟩ := fb
          obtain ⟨δ, hδ⟩ := fd
          refine ⟨δ * α - β * β, ?_⟩
          have ea : ((α.natAbs : Nat) : Rat) = ((α : Int) : Rat) := by
            have : ((α.natAbs : Nat) : Int) = α := by omega
            have e2 : ((α.natAbs : Nat) : Rat) = (((α.natAbs : Nat) : Int) : Rat) := rfl
            rw [e2, this]
          rw [Rat.natCast_mul, ea, Rat.intCast_sub, Rat.intCast_mul, Rat.intCast_mul, ← hα, ← hβ, ← hδ, Rat.div_def]
          exact schur2 inv
        have hbd : α.natAbs * D < 2 ^ 3160 := by
          calc α.natAbs * D ≤ B * D * D := Nat.mul_le_mul_right _ αle
            _ ≤ 2 ^ 647 * 2 ^ 1252 * 2 ^ 1252 := Nat.mul_le_mul (Nat.mul_le_mul h.Bl (Nat.le_of_lt h.Dl)) (Nat.le_of_lt h.Dl)
            _ = 2 ^ 3151 := by rw [pw, pw]
            _ < 2 ^ 3160 := Nat.pow_lt_pow_right (by omega) (by omega)
        refine sz_of xF (Bt.of x0 xle) (Nat.mul_pos (by omega) h.D0) (Nat.lt_of_lt_of_le hbd (Nat.pow_le_pow_right (by omega) (by omega))) ?_
        calc B * (α.natAbs * D) ≤ 2 ^ 647 * 2 ^ 3160 := Nat.mul_le_mul h.Bl (Nat.le_of_lt hbd)
          _ = 2 ^ 3807 := by rw [pw]
          _ < 2 ^ 4400 := Nat.pow_lt_pow_right (by omega) (by omega)
      · rw [h.ent1 hi hj, if_pos h0]
        have e02 : (M[0]!)[2]! = -(M[0]!)[0]! - (M[0]!)[1]! := by grind
        have e12 : (M[1]!)[2]! = -(M[0]!)[1]! - (M[1]!)[1]! := by grind
        have e22 : (M[2]!)[2]! = (M[0]!)[0]! + 2 * (M[0]!)[1]! + (M[1]!)[1]! := by grind
        match i, j, hi, hj with
        | 0, 0, _, _ => simp only [tt]; rw [Rat.div_def, Rat.div_def]; grind
        | 0, 1, _, _ => simp only [tt]; rw [Rat.div_def, Rat.div_def]; grind
        | 0, 2, _, _ => simp only [tt]; rw [Rat.div_def, Rat.div_def]; grind
        | 1, 0, _, _ => simp only [tt]; rw [← s01, Rat.div_def, Rat.div_def]; grind
        | 1, 1, _, _ => simp only [tt]; rw [Rat.div_def]; grind
        | 1, 2, _, _ => simp only [tt]; rw [e12, e02, Rat.div_def, Rat.div_def]; grind
        | 2, 0, _, _ => simp only [tt]; rw [← s02, Rat.div_def, Rat.div_def]; grind
        | 2, 1, _, _ => simp only [tt]; rw [← s12, e12, e02, Rat.div_def, Rat.div_def]; grind
        | 2, 2, _, _ => simp only [tt]; rw [e22, e02, Rat.div_def, Rat.div_def]; grind
    · have z := h.zer0 h0
      have z0 := z 0 (by decide)
      have z1 := z 1 (by decide)
      have z2 := z 2 (by decide)
      refine ⟨(M[1]!)[1]!, h.d0, (h.sz (by decide) (by decide)).mono (by decide), fun i j hi hj => ?_⟩
      rw [h.ent1 hi hj, if_neg h0]
      match i, j, hi, hj with
      | 0, 0, _, _ => simp only [tt]; grind
      | 0, 1, _, _ => simp only [tt]; grind
      | 0, 2, _, _ => simp only [tt]; grind
      | 1, 0, _, _ => simp only [tt]; grind
      | 1, 1, _, _ => simp only [tt]; grind
      | 1, 2, _, _ => simp only [tt]; grind
      | 2, 0, _, _ => simp only [tt]; grind
      | 2, 1, _, _ => simp only [tt]; grind
      | 2, 2, _, _ => simp only [tt]; grind
  obtain ⟨x, x0, xs, e1⟩ := one
  have n1 : ((leftR M 1)[1]!)[1]! = x := by rw [e1 1 1 (by decide) (by decide)]; simp only [tt]; grind
  have tz : ∀ i, Sz 2 (tt i) := fun i => by
    unfold tt
    split
    · exact ⟨by decide, by decide⟩
    · split <;> exact ⟨by decide, by decide⟩
  have xt : ∀ i j, Sz 4400 (x * tt i * tt j) := fun i j => by
    have key : ∀ y : Rat, Sz 4400 y → ∀ i, Sz 4400 (y * tt i) := fun y hy i => by
      unfold tt
      split
      · have : y * 0 = 0 := by grind
        rw [this]; exact sz0.mono (by decide)
      · split
        · have : y * 1 = y := by grind
          rw [this]; exact hy
        · have : y * -1 = -y := by grind
          rw [this]; exact hy.neg
    exact key _ (key x xs i) j
  have d1 := left_dim d 1 (by decide)
  have quo : 0 < x → ∀ j, j < 3 → ((leftR M 1)[1]!)[j]! / ((leftR M 1)[1]!)[1]! = tt j := fun hx j hj => by
    have hz : x ≠ 0 := by grind
    have inv := Rat.mul_inv_cancel _ hz
    rw [n1, e1 1 j (by decide) hj, Rat.div_def]
    have : tt 1 = 1 := rfl
    rw [this]
    grind
  have z2 : ∀ i j, i < 3 → j < 3 → ((leftR M 2)[i]!)[j]! = 0 := fun i j hi hj => by
    rw [left_at (k := 1) d (by decide) hi hj, n1]
    by_cases hx : 0 < x
    · rw [if_pos hx]
      have q := quo hx
      rw [n1] at q
      rw [q i hi, q j hj, e1 i j hi hj]
      by_cases z : 1 ≤ i
      · rw [if_pos z]; grind
      · have : i = 0 := by omega
        subst this
        rw [if_neg z]
        have : tt 0 = 0 := rfl
        rw [this]; grind
    · rw [if_neg hx, e1 i j hi hj]
      have : x = 0 := by grind
      rw [this]; grind
  refine ⟨by rw [h.l]; decide, fun k hk => ?_, fun k hk hp => ?_, fun k hk hp => ?_⟩
  · rw [h.l] at hk ⊢
    have := left_dim d k hk
    exact ⟨this.l, this.sq⟩
  · rw [h.l] at hk
    match k, hk with
    | 0, _ => exact h.step0 hp
    | 1, _ =>
      have hx : 0 < x := by rw [n1] at hp; exact hp
      refine step_ok (m := 4400) (w := 2) d1 (by decide) (by decide) hp (fun j hj => by rw [e1 1 j (by decide) hj]; exact xt 1 j) (fun j hj => by rw [quo hx j hj]; exact tz j) (fun i j _ hi hj => ?_) (by decide) (by decide)
      rw [quo hx j hj, e1 i j hi hj, e1 1 i (by decide) hi]
      have e : x * tt 1 * tt i * tt j = x * tt i * tt j := by
        have : tt 1 = 1 := rfl
        rw [this]; grind
      rw [e]
      exact (xt i j).fits (xt i j) (by decide)
    | 2, _ => rw [z2 2 2 (by decide) (by decide)] at hp; exact absurd hp (by decide)
  · rw [h.l] at hk
    match k, hk with
    | 0, _ => exact mem_ent (P := fun x => x = 0) d (by decide) (h.zer0 hp)
    | 1, _ =>
      refine mem_ent (P := fun x => x = 0) d1 (by decide) fun j hj => ?_
      rw [n1] at hp
      have : x = 0 := by grind
      rw [e1 1 j (by decide) hj, this]; grind
    | 2, _ => exact mem_ent (P := fun x => x = 0) (left_dim d 2 (by decide)) (by decide) fun j hj => z2 2 j (by decide) hj
theorem Frm.partP (h : Frm n M D B) : PartP M := by
  rcases h.n2 with rfl | rfl
  · exact part2 h
  · exact part3 h
end
end Gw
/-! Plain: all of the plain law of k84. -/
namespace Gw
section
variable {n : Nat} {rows : List (List Rat)} {ws : List Rat} {gs : List (List (Rat × Rat))}
namespace GG
variable (h : GG n rows ws gs) (c : Conn2 rows)
include h c
/-- one number that all heads divide -/
theorem pivE : ∃ E : Nat, 0 < E ∧ E ≤ 2 ^ 615 ∧ ∀ r ∈ int_stepsR (lapA (flowsR rows ws (standR gs)) (goalsR ws (standR gs))), (r[headOf r]!).natAbs ∣ E := by
  have ml : (flowsR rows ws (standR gs)).length = (standR gs).length := flowsR_len _ _ _
  have m6 := h.m6
  have m0 := h.m0
  obtain ⟨e, En⟩ := (h.net c).ended
  have few := En.few
  rw [ml] at few
  have P := piv_steps h.rect.1 ((flowsR rows ws (standR gs)).length - 1) (by rw [ml]; omega)
  obtain ⟨E, E0, Eb, Ed⟩ := P.ex
  rw [← e] at Eb Ed
  refine ⟨E, E0, Nat.le_trans Eb (Nat.pow_le_pow_right (by omega) ?_), Ed⟩
  have : eb 19 (int_stepsR (lapA (flowsR rows ws (standR gs)) (goalsR ws (standR gs)))).length ≤ eb 19 5 := eb_mono (by omega)
  have e5 : eb 19 5 = 615 := by decide
  omega
theorem xz : ∃ E : Nat, 0 < E ∧ E ≤ 2 ^ 615 ∧ ∀ q i, q < n → i < (standR gs).length → IsF E (XX rows ws gs q i) ∧ Bt (2 ^ 639) (XX rows ws gs q i) := by
  obtain ⟨E, E0, Eb, Ed⟩ := h.pivE c
  have gl : (goalsR ws (standR gs)).length = n := by rw [goalsR_len, h.wl]
  have ml : (flowsR rows ws (standR gs)).length = (standR gs).length := flowsR_len _ _ _
  obtain ⟨s5, st⟩ := h.steps c
  refine ⟨E, E0, Eb, fun q i hq hi => ?_⟩
  have all : ∀ x ∈ (aheadsR (flowsR rows ws (standR gs)) (goalsR ws (standR gs)))[q]!, IsF E x ∧ Bt (2 ^ 639) x := by
    rw [getElem!_pos _ q (by rw [aheadsR_len, gl]; exact hq)]
    unfold aheadsR
    rw [List.getElem_map, List.getElem_range]
    unfold aheadOf
    refine fold_all (P := fun x => IsF E x ∧ Bt (2 ^ 639) x) (fun x hx => ?_) fun r hr => ?_
    · rw [List.eq_of_mem_replicate hx]
      exact ⟨isF_0 E, Bt.of Rat.le_refl Rat.natCast_nonneg⟩
    · unfold steps_ofR at hr
      obtain ⟨r, hr2, rfl⟩ := List.mem_map.mp hr
      obtain ⟨b, l, hd, h0⟩ := st r hr2
      have dv := Ed r hr2
      rw [told_at]
      have hnz : r[headOf r]! ≠ 0 := fun z => h0 (vv_zero.mpr z)
      have hl := vv_lt h0
      have bj : ∀ j : Nat, (r[j]!).natAbs < 2 ^ 639 := fun j => by
        by_cases z : j < r.length
        · exact b.get z
        · rw [getElem!_neg r j z]; exact Nat.two_pow_pos 639
      obtain ⟨w, hw⟩ := dv
      constructor
      · -- a divisor
        have hE : ∃ k : Int, (E : Int) = r[headOf r]! * k := by
          have d2 : r[headOf r]! ∣ (E : Int) := by
            rw [← Int.natAbs_dvd]
            exact Int.natCast_dvd_natCast.mpr ⟨w, hw⟩
          exact d2
        obtain ⟨k, hk⟩ := hE
        refine ⟨r[(flowsR rows ws (standR gs)).length + q]! * k, ?_⟩
        have eE : ((E : Nat) : Rat) = vv r (headOf r) * ((k : Int) : Rat) := by
          have : ((E : Nat) : Rat) = (((E : Nat) : Int) : Rat) := rfl
          rw [this, hk, Rat.intCast_mul]
          rfl
        rw [eE, Rat.intCast_mul]
        show vv r _ / vv r (headOf r) * (vv r (headOf r) * _) = vv r _ * _
        rw [← Rat.mul_assoc, Rat.div_mul_cancel h0]
      · -- its size
        have key : ∀ u v : Int, v ≠ 0 → u.natAbs < 2 ^ 639 → Bt (2 ^ 639) (((u : Int) : Rat) / ((v : Int) : Rat)) := fun u v hv hu => by
          have vz : ((v : Int) : Rat) ≠ 0 := by rw [Ne, Rat.intCast_eq_zero_iff]; exact hv
          have hb : Bt (2 ^ 639) ((u : Int) : Rat) := by
            constructor
            · have : (((-(2 ^ 639 : Nat) : Int)) : Rat) ≤ ((u : Int) : Rat) := Rat.intCast_le_intCast.mpr (by omega)
              rw [Rat.intCast_neg] at this
              exact this
            · have : ((u : Int) : Rat) ≤ ((((2 ^ 639 : Nat) : Int)) : Rat) := Rat.intCast_le_intCast.mpr (by omega)
              exact this
          have hi : Bt 1 (((v : Int) : Rat))⁻¹ := by
            rcases Int.lt_or_gt_of_ne hv with z | z
            · have z1 : ((v : Int) : Rat) ≤ ((-1 : Int) : Rat) := Rat.intCast_le_intCast.mpr (by omega)
              have z2 : ((-1 : Int) : Rat) = -1 := rfl
              rw [z2] at z1
              have inv := Rat.mul_inv_cancel _ vz
              generalize ((v : Int) : Rat) = a at *
              generalize a⁻¹ = b at *
              constructor
              · show -((1 : Nat) : Rat) ≤ b
                have : ((1 : Nat) : Rat) = 1 := rfl
                rw [this]
                by_cases y : -1 ≤ b
                · exact y
                · have := Rat.mul_nonneg (show 0 ≤ -1 - a by grind) (show 0 ≤ -1 - b by grind)
                  grind
              · show b ≤ ((1 : Nat) : Rat)
                have : ((1 : Nat) : Rat) = 1 := rfl
                rw [this]
                by_cases y : b ≤ 0
                · grind
                · have := Rat.mul_pos (show 0 < -a by grind) (show 0 < b by grind)
                  grind
            · have z1 : ((1 : Int) : Rat) ≤ ((v : Int) : Rat) := Rat.intCast_le_intCast.mpr (by omega)
              have z2 : ((1 : Int) : Rat) = 1 := rfl
              rw [z2] at z1
              have inv := Rat.mul_inv_cancel _ vz
              generalize ((v : Int) : Rat) = a at *
              generalize a⁻¹ = b at *
              constructor
              · show -((1 : Nat) : Rat) ≤ b
                have : ((1 : Nat) : Rat) = 1 := rfl
                rw [this]
                by_cases y : 0 ≤ b
                · grind
                · have := Rat.mul_pos (show 0 < a by grind) (show 0 < -b by grind)
                  grind
              · show b ≤ ((1 : Nat) : Rat)
                have : ((1 : Nat) : Rat) = 1 := rfl
                rw [this]
                by_cases y : b ≤ 1
                · exact y
                · have := Rat.mul_nonneg (show 0 ≤ a - 1 by grind) (show 0 ≤ b - 1 by grind)
                  grind
          have := hb.mul hi
          rw [Nat.mul_one] at this
          rw [Rat.div_def]
          exact this
        exact key _ _ hnz (bj _)
  have xl : ((aheadsR (flowsR rows ws (standR gs)) (goalsR ws (standR gs)))[q]!).length = (standR gs).length := by rw [aheadsR_at (by rw [gl]; exact hq), ml]
  exact all _ (get_mem (by rw [xl]; exact hi))
theorem cellz : ∃ D : Nat, 0 < D ∧ D < 2 ^ 626 ∧ ∀ p q, p < n → q < n → IsF D ((guessedR rows ws gs)[p]!)[q]! ∧ Bt (2 ^ 646) ((guessedR rows ws gs)[p]!)[q]! := by
  obtain ⟨E, E0, Eb, X⟩ := h.xz c
  obtain ⟨T, T0, T12, hT, hW⟩ := h.wt
  have m6 := h.m6
  have Tz : ((T : Nat) : Rat) ≠ 0 := by rw [Ne, Rat.natCast_eq_zero_iff]; omega
  have hD : 12 * T * E * T < 2 ^ 626 := by
    calc 12 * T * E * T ≤ 12 * 12 * 2 ^ 615 * 12 := Nat.mul_le_mul (Nat.mul_le_mul (Nat.mul_le_mul_left _ T12) Eb) T12
      _ = 1728 * 2 ^ 615 := by rw [Nat.mul_right_comm]
      _ < 2 ^ 11 * 2 ^ 615 := Nat.mul_lt_mul_of_pos_right (by decide) (Nat.two_pow_pos 615)
      _ = 2 ^ 626 := by rw [pw]
  refine ⟨12 * T * E * T, Nat.mul_pos (Nat.mul_pos (by omega) E0) T0, hD, fun p q hp hq => ?_⟩
  rw [h.cell_eq hp hq, hW]
  have u : ∀ i ∈ List.range (standR gs).length, IsF (12 * T * E) (gi ws gs p i * XX rows ws gs q i) ∧ Bt (8 * 2 ^ 639) (gi ws gs p i * XX rows ws gs q i) := fun i hi => by
    have hi := List.mem_range.mp hi
    obtain ⟨b, f⟩ := h.gfB hT (s := (standR gs)[i]!) (get_mem hi) hp
    obtain ⟨xf, xb⟩ := X q i hq hi
    exact ⟨f.mul xf, b.mul xb⟩
  have uF : IsF (12 * T * E) (UU rows ws gs p q) := IsF.S fun i hi => (u i hi).1
  have uB : Bt (48 * 2 ^ 639) (UU rows ws gs p q) := (Bt.S fun i hi => (u i hi).2).up (by
    rw [List.length_range]
    calc (standR gs).length * (8 * 2 ^ 639) ≤ 6 * (8 * 2 ^ 639) := Nat.mul_le_mul_right _ m6
      _ = 48 * 2 ^ 639 := by rw [← Nat.mul_assoc])
  have qF : IsF (12 * T * E * T) (UU rows ws gs p q / ((T : Nat) : Rat)) := by
    obtain ⟨t, ht⟩ := uF
    refine ⟨t, ?_⟩
    rw [Rat.natCast_mul, ← ht, Rat.mul_comm _ ((T : Nat) : Rat), ← Rat.mul_assoc, Rat.div_mul_cancel Tz]
  have qB : Bt (48 * 2 ^ 639) (UU rows ws gs p q / ((T : Nat) : Rat)) := by
    have t1 : (1 : Rat) ≤ ((T : Nat) : Rat) := by
      have : ((1 : Nat) : Rat) ≤ ((T : Nat) : Rat) := Rat.natCast_le_natCast.mpr (by omega)
      exact this
    have inv := Rat.mul_inv_cancel _ Tz
    have ip : 0 ≤ (((T : Nat) : Rat))⁻¹ := by
      have := Rat.inv_pos (a := ((T : Nat) : Rat))
      grind
    have i1 : (((T : Nat) : Rat))⁻¹ ≤ 1 := by
      generalize ((T : Nat) : Rat) = a at *
      generalize a⁻¹ = b at *
      by_cases y : b ≤ 1
      · exact y
      · have := Rat.mul_nonneg (show 0 ≤ a - 1 by grind) (show 0 ≤ b - 1 by grind)
        grind
    have := uB.mul (bt_01 ip i1)
    rw [Nat.mul_one] at this
    rw [Rat.div_def]
    exact this
  have s1 : ∀ p, p < n → IsF T (sh ws p) ∧ Bt 1 (sh ws p) := fun p hp => by
    obtain ⟨e, m⟩ := h.sh_at hp
    have b := h.shB m
    refine ⟨?_, bt_01 b.1 b.2⟩
    show IsF T (sharesR ws)[p]!
    rw [e]
    exact isF_den (hT _ (get_mem (by rw [h.wl]; exact hp)))
  have d1 : IsF T (dl p q) ∧ Bt 1 (dl p q) := by
    unfold dl
    split
    · exact ⟨isF_1 T, bt_01 (by decide) Rat.le_refl⟩
    · exact ⟨isF_0 T, bt_01 Rat.le_refl (by decide)⟩
  have v : IsF (T * T) (sh ws p * (dl p q - sh ws q)) ∧ Bt (1 * (1 + 1)) (sh ws p * (dl p q - sh ws q)) := ⟨(s1 p hp).1.mul (d1.1.sub (s1 q hq).1), (s1 p hp).2.mul (d1.2.sub (s1 q hq).2)⟩
  have two : IsF 1 (2 : Rat) ∧ Bt 2 (2 : Rat) := ⟨isF_int 1 2, ⟨by decide, by decide⟩⟩
  refine ⟨IsF.sub ?_ (v.1.up ?_), ((qB.mul two.2).sub v.2).up ?_⟩
  · have := qF.mul two.1
    rw [Nat.mul_one] at this
    exact this
  · refine Nat.mul_dvd_mul_right ?_ T
    rw [Nat.mul_comm 12 T, Nat.mul_assoc]
    exact Nat.dvd_mul_right _ _
  · have : (2 : Nat) ^ 646 = 128 * 2 ^ 639 := by rw [show (646 : Nat) = 7 + 639 by rfl, Nat.pow_add]
    rw [this]
    have p0 := Nat.two_pow_pos 639
    omega
theorem frm {D B : Nat} (hD : 0 < D) (hl : D < 2 ^ 1252) (hB : B ≤ 2 ^ 647) (hz : ∀ p q, p < n → q < n → IsF D ((guessedR rows ws gs)[p]!)[q]! ∧ Bt B ((guessedR rows ws gs)[p]!)[q]!) : Frm n (guessedR rows ws gs) D B := by
  obtain ⟨t1, t2⟩ := math_tl (rows := rows) (gs := gs) h.wl
  exact ⟨h.n2, t1, t2, fun p q hp hq => h.tsym c hp hq, fun p hp => h.trow c hp, h.qf_nonneg c, hz, hD, hl, hB⟩
end GG
end
section
variable {n : Nat} {S0 W0 : List (List Rat)}
theorem less_at {D B : Nat} (h : Frm n S0 D B) (h' : Frm n W0 D B) {p q : Nat} (hp : p < n) (hq : q < n) : ((lessR S0 W0)[p]!)[q]! = (W0[p]!)[q]! - (S0[p]!)[q]! := by
  have p1 : p < S0.length := by rw [h.l]; exact hp
  have p2 : p < W0.length := by rw [h'.l]; exact hp
  unfold lessR
  rw [getElem!_pos _ p (by rw [List.length_map, List.length_zip]; omega), List.getElem_map, List.getElem_zip, ← getElem!_pos S0 p p1, ← getElem!_pos W0 p p2]
  have l1 := h.rl hp
  have l2 := h'.rl hp
  have lz : ((S0[p]!).zip (W0[p]!)).length = n := by rw [List.length_zip, l1, l2, Nat.min_self]
  rw [getElem!_pos _ q (by rw [List.length_map]; show q < ((S0[p]!).zip (W0[p]!)).length; rw [lz]; exact hq), List.getElem_map, List.getElem_zip]
  show (W0[p]!)[q]'(by omega) - (S0[p]!)[q]'(by omega) = _
  rw [getElem!_pos (S0[p]!) q (by omega), getElem!_pos (W0[p]!) q (by omega)]
theorem frm_less {D : Nat} (h : Frm n S0 D (2 ^ 646)) (h' : Frm n W0 D (2 ^ 646)) (le : ∀ k, Qf n S0 k ≤ Qf n W0 k) : Frm n (lessR S0 W0) D (2 ^ 647) := by
  have la := fun {p q : Nat} (hp : p < n) (hq : q < n) => less_at h h' hp hq
  refine ⟨h.n2, by simp [lessR, h.l, h'.l], fun r hr => ?_, fun p q hp hq => by rw [la hp hq, la hq hp, h.sym p q hp hq, h'.sym p q hp hq], fun p hp => ?_, fun k => ?_, fun p q hp hq => ?_, h.D0, h.Dl, Nat.le_refl _⟩
  · unfold lessR at hr
    obtain ⟨x, hx, rfl⟩ := List.mem_map.mp hr
    obtain ⟨m1, m2⟩ := List.of_mem_zip hx
    rw [List.length_map, List.length_zip, h.sq _ m1, h'.sq _ m2, Nat.min_self]
  · rw [S_congr fun q hq => la hp (List.mem_range.mp hq), S_sub, h.row p hp, h'.row p hp]; grind
  · have e : Qf n (lessR S0 W0) k = Qf n W0 k - Qf n S0 k := by
      unfold Qf
      rw [← S_sub]
      refine S_congr fun p hp => ?_
      rw [← S_sub]
      refine S_congr fun q hq => ?_
      rw [la (List.mem_range.mp hp) (List.mem_range.mp hq)]; grind
    rw [e]
    have := le k
    grind
  · rw [la hp hq]
    refine ⟨(h'.z p q hp hq).1.sub (h.z p q hp hq).1, ((h'.z p q hp hq).2.sub (h.z p q hp hq).2).up ?_⟩
    have : (2 : Nat) ^ 647 = 2 ^ 646 * 2 := Nat.pow_succ 2 646
    omega
end
theorem hi_ok : ∀ p ∈ rwPs, ∀ q ∈ p.2.map handed, ¬ aboveR (p.2.map handed) q.2 < aboveR (p.1.map handed) q.2 := by decide +kernel
theorem mathQ : MathQ := by
  have gg : ∀ n B ws ps, Case4 n B ws ps → GG n B (wQ ws) (nearQ ps) ∧ GG n B (wQ ws) (farQ ps) := fun n B ws ps h => by
    refine ⟨gg4 h.n2 h.b h.wl h.w (by simp [h.pl]) fun g hg => ?_, gg4 h.n2 h.b h.wl h.w (by simp [h.pl]) fun g hg => ?_⟩
    · obtain ⟨p, hp, rfl⟩ := List.mem_map.mp hg
      exact (ps_gs p (h.p p hp)).1
    · obtain ⟨p, hp, rfl⟩ := List.mem_map.mp hg
      exact (ps_gs p (h.p p hp)).2
  refine ⟨math_row, math_uni, fun p hp => ⟨(gdG_rw _ (ps_gs p hp).1).gp, (gdG_rw _ (ps_gs p hp).2).gp, hi_ok p hp⟩, fun n B ws ps h => ⟨(gg n B ws ps h).1.gt h.c, (gg n B ws ps h).2.gt h.c⟩, fun n B ws ps h => ?_, fun n B ws ps h e r hr x hx => ?_⟩
  · obtain ⟨g1, g2⟩ := gg n B ws ps h
    obtain ⟨D1, d10, d1l, z1⟩ := g1.cellz h.c
    obtain ⟨D2, d20, d2l, z2⟩ := g2.cellz h.c
    have hD0 : 0 < D1 * D2 := Nat.mul_pos d10 d20
    have hDl : D1 * D2 < 2 ^ 1252 := by
      calc D1 * D2 < 2 ^ 626 * 2 ^ 626 := Nat.mul_lt_mul'' d1l d2l
        _ = 2 ^ 1252 := by rw [pw]
    have b6 : (2 : Nat) ^ 646 ≤ 2 ^ 647 := Nat.pow_le_pow_right (by omega) (by omega)
    have F1 := g1.frm h.c hD0 hDl b6 (fun p q hp hq => ⟨(z1 p q hp hq).1.up (Nat.dvd_mul_right _ _), (z1 p q hp hq).2⟩)
    have F2 := g2.frm h.c hD0 hDl b6 (fun p q hp hq => ⟨(z2 p q hp hq).1.up (Nat.dvd_mul_left _ _), (z2 p q hp hq).2⟩)
    have le : ∀ k, Qf n (guessedR B (wQ ws) (nearQ ps)) k ≤ Qf n (guessedR B (wQ ws) (farQ ps)) k := fun k => (cpl h.p).qf_le g1 g2 h.c k
    have F3 := frm_less F1 F2 le
    refine ⟨F1.l, F1.sq, F2.l, F2.sq, fun p hp q hq => ?_, F3.lawF, F1.lawF, F2.lawF, F3.formP, F3.partP, F1.formP, F2.formP, fun xs hx hb => ?_⟩
    · obtain ⟨i, hi, e⟩ := List.mem_iff_getElem.mp hp
      obtain ⟨j, hj, e2⟩ := List.mem_iff_getElem.mp hq
      rw [List.length_zip, F1.l, F2.l, Nat.min_self] at hi
      rw [List.getElem_zip] at e
      have q1 : p.1 = (guessedR B (wQ ws) (nearQ ps))[i]! := by rw [← e, getElem!_pos _ i (by rw [F1.l]; exact hi)]
      have q2 : p.2 = (guessedR B (wQ ws) (farQ ps))[i]! := by rw [← e, getElem!_pos _ i (by rw [F2.l]; exact hi)]
      have l1 : p.1.length = n := by rw [q1]; exact F1.rl hi
      have l2 : p.2.length = n := by rw [q2]; exact F2.rl hi
      rw [List.length_zip, l1, l2, Nat.min_self] at hj
      rw [List.getElem_zip] at e2
      have r1 : q.1 = ((guessedR B (wQ ws) (nearQ ps))[i]!)[j]! := by rw [← e2, ← q1, getElem!_pos _ j (by rw [l1]; exact hj)]
      have r2 : q.2 = ((guessedR B (wQ ws) (farQ ps))[i]!)[j]! := by rw [← e2, ← q2, getElem!_pos _ j (by rw [l2]; exact hj)]
      rw [r1, r2]
      exact (F2.sz hi hj).fits (F1.sz hi hj) (by decide)
    · obtain ⟨w1, s1⟩ := F1.worP hx hb
      obtain ⟨w2, s2⟩ := F2.worP hx hb
      refine ⟨w1, w2, s1.fits s2 (by decide), ?_⟩
      have xl : (intsQ xs).length = n := by simp [intsQ, hx]
      rw [F1.wor_Q xl, F2.wor_Q xl]
      exact le _
  · rw [← e] at hr
    unfold lessR at hr
    obtain ⟨p, hp, rfl⟩ := List.mem_map.mp hr
    obtain ⟨q, hq, rfl⟩ := List.mem_map.mp hx
    have e1 : p.1 = p.2 := by
      obtain ⟨i, hi, e⟩ := List.mem_iff_getElem.mp hp
      rw [List.getElem_zip] at e
      rw [← e]
    rw [e1] at hq
    have e2 : q.1 = q.2 := by
      obtain ⟨i, hi, e⟩ := List.mem_iff_getElem.mp hq
      rw [List.getElem_zip] at e
      rw [← e]
    rw [e2]; grind
end Gw
set_option maxHeartbeats 0
namespace Gw
open PySem PySem.Spec PyProof.Rows L2 He
theorem relV_non : RelV .non .none := rfl
theorem Vals.getD {vs : List V} {us : List Value} (h : Vals vs us) : ∀ i : Nat, RelV (vs.getD i .non) (us.getD i .none) := by
  induction h with
  | nil => intro i; exact relV_non
  | cons r _ ih =>
    intro i
    cases i with
    | zero => exact r
    | succ i => exact ih i
theorem kbn_of {K : PySem.W.Frag} {x qual : Str} {params : Arguments} {body : List Stmt} {scope : Scope} {f : Addr} {fd : FuncData} {ps : List Str} (F : FunD K x qual params body scope [] [] f fd) (n : Nat) (ks : List Str) (g : List Value → List Value → List Value) (gV : List V → List V → List V)
    (hrel : ∀ {vs : List V} {us : List Value} {zs : List V} {ws : List Value}, Vals vs us → Vals zs ws → Vals (gV vs zs) (g us ws))
    (h : ∀ (kV doc pm : Value) (an : Option Addr) (cdv ct : Value) (us ws : List Value), us.length = n → ws.length = ks.length → bindArgs (PySem.W.fnOf x qual params body scope .none kV doc pm an cdv ct) ⟨us, ks.zip ws⟩ = pure (ps.zip (g us ws))) : KBn K fd ps n ks g gV := by
  obtain ⟨oc, od, dV, kV, doc, pm, an, cdv, ct, osl, rfl, lk, hcd, hD, hK⟩ := F.ex
  rcases hD with ⟨_, rfl⟩ | ⟨e, _⟩
  · exact ⟨fun s us ws X l1 l2 => .of_eq (h kV doc pm an cdv ct us ws l1 l2), hrel⟩
  · exact absurd rfl e
theorem hFacts {P : Program} {w : World} {K : PySem.W.Frag} {h : Heap} {mg : Str → Option Value} {f : Addr} (X : K.In h) (G : h.Ns mainGlobals mg) (hfa : mg ("law" : Str) = some (.ref f)) (c : SaysA hFa hFn hDa hEx K) :
    ∃ fd : FuncData, (∀ (s : Shared) (v : Value), BindsTo s fd ⟨[v], []⟩ [("script", v)]) ∧ ∀ base : Heap, K.In base → base.Ns mainGlobals mg → FnOk P w K mg base CX0 16 f fd ["script"] (spLaw K) := by
  obtain ⟨fd_is_integer, F_is_integer⟩ := c.d.def_ 0 (d := d_is_integer) rfl
  obtain ⟨fd_divisor_of, F_divisor_of⟩ := c.d.def_ 1 (d := d_divisor_of) rfl
  obtain ⟨fd_told_pair, F_told_pair⟩ := c.d.def_ 2 (d := d_told_pair) rfl
  obtain ⟨fd_is_number, F_is_number⟩ := c.d.def_ 3 (d := d_is_number) rfl
  obtain ⟨fd_ratio_of, F_ratio_of⟩ := c.d.def_ 4 (d := d_ratio_of) rfl
  obtain ⟨fd_want_number, F_want_number⟩ := c.d.def_ 5 (d := d_want_number) rfl
  obtain ⟨fd_is_list, F_is_list⟩ := c.d.def_ 6 (d := d_is_list) rfl
  obtain ⟨fd_total_of, F_total_of⟩ := c.d.def_ 7 (d := d_total_of) rfl
  obtain ⟨fd_wholes, F_wholes⟩ := c.d.def_ 8 (d := d_wholes) rfl
  obtain ⟨fd_ints_of, F_ints_of⟩ := c.d.def_ 9 (d := d_ints_of) rfl
  obtain ⟨fd_bare_row, F_bare_row⟩ := c.d.def_ 10 (d := d_bare_row) rfl
  obtain ⟨fd_cleared, F_cleared⟩ := c.d.def_ 11 (d := d_cleared) rfl
  obtain ⟨fd_first_at, F_first_at⟩ := c.d.def_ 12 (d := d_first_at) rfl
  obtain ⟨fd_headed_row, F_headed_row⟩ := c.d.def_ 13 (d := d_headed_row) rfl
  obtain ⟨fd_head_of, F_head_of⟩ := c.d.def_ 14 (d := d_head_of) rfl
  obtain ⟨fd_told_rows, F_told_rows⟩ := c.d.def_ 15 (d := d_told_rows) rfl
  obtain ⟨fd_int_steps, F_int_steps⟩ := c.d.def_ 16 (d := d_int_steps) rfl
  obtain ⟨fd_steps_of, F_steps_of⟩ := c.d.def_ 17 (d := d_steps_of) rfl
  obtain ⟨fd_are_numbers, F_are_numbers⟩ := c.d.def_ 18 (d := d_are_numbers) rfl
  obtain ⟨fd_is_table_of, F_is_table_of⟩ := c.d.def_ 19 (d := d_is_table_of) rfl
  obtain ⟨fd_told_table, F_told_table⟩ := c.d.def_ 20 (d := d_told_table) rfl
  obtain ⟨fd_are_chances, F_are_chances⟩ := c.d.def_ 21 (d := d_are_chances) rfl
  obtain ⟨fd_want_proposal, F_want_proposal⟩ := c.d.def_ 22 (d := d_want_proposal) rfl
  obtain ⟨fd_want_weights, F_want_weights⟩ := c.d.def_ 23 (d := d_want_weights) rfl
  obtain ⟨fd_is_part, F_is_part⟩ := c.d.def_ 24 (d := d_is_part) rfl
  obtain ⟨fd_guess_in, F_guess_in⟩ := c.d.def_ 25 (d := d_guess_in) rfl
  obtain ⟨fd_want_guesses, F_want_guesses⟩ := c.d.def_ 26 (d := d_want_guesses) rfl
  obtain ⟨fd_standings_of, F_standings_of⟩ := c.d.def_ 27 (d := d_standings_of) rfl
  obtain ⟨fd_want_at_most, F_want_at_most⟩ := c.d.def_ 28 (d := d_want_at_most) rfl
  obtain ⟨fd_flow_between, F_flow_between⟩ := c.d.def_ 29 (d := d_flow_between) rfl
  obtain ⟨fd_flows_of_standings, F_flows_of_standings⟩ := c.d.def_ 30 (d := d_flows_of_standings) rfl
  obtain ⟨fd_is_joined, F_is_joined⟩ := c.d.def_ 31 (d := d_is_joined) rfl
  obtain ⟨fd_worths_ahead, F_worths_ahead⟩ := c.d.def_ 32 (d := d_worths_ahead) rfl
  obtain ⟨fd_table_of_standings, F_table_of_standings⟩ := c.d.def_ 33 (d := d_table_of_standings) rfl
  obtain ⟨fd_guessed_table, F_guessed_table⟩ := c.d.def_ 34 (d := d_guessed_table) rfl
  obtain ⟨fd__law_draw, F__law_draw⟩ := c.d.def_ 35 (d := d__law_draw) rfl
  obtain ⟨fd__law_pot, F__law_pot⟩ := c.d.def_ 36 (d := d__law_pot) rfl
  obtain ⟨fd__law_pick, F__law_pick⟩ := c.d.def_ 37 (d := d__law_pick) rfl
  obtain ⟨fd__law_weights, F__law_weights⟩ := c.d.def_ 38 (d := d__law_weights) rfl
  obtain ⟨fd__law_proposal, F__law_proposal⟩ := c.d.def_ 39 (d := d__law_proposal) rfl
  obtain ⟨fd__law_two, F__law_two⟩ := c.d.def_ 40 (d := d__law_two) rfl
  obtain ⟨fd__law_handed, F__law_handed⟩ := c.d.def_ 41 (d := d__law_handed) rfl
  obtain ⟨fd__law_is_joined, F__law_is_joined⟩ := c.d.def_ 42 (d := d__law_is_joined) rfl
  obtain ⟨fd_want_guess, F_want_guess⟩ := c.d.def_ 43 (d := d_want_guess) rfl
  obtain ⟨fd_above, F_above⟩ := c.d.def_ 44 (d := d_above) rfl
  obtain ⟨fd_is_hinge_of, F_is_hinge_of⟩ := c.d.def_ 45 (d := d_is_hinge_of) rfl
  obtain ⟨fd_hinge_of, F_hinge_of⟩ := c.d.def_ 46 (d := d_hinge_of) rfl
  obtain ⟨fd_is_less_spread, F_is_less_spread⟩ := c.d.def_ 47 (d := d_is_less_spread) rfl
  obtain ⟨fd_are_table, F_are_table⟩ := c.d.def_ 48 (d := d_are_table) rfl
  obtain ⟨fd_told_table_2, F_told_table_2⟩ := c.d.def_ 49 (d := d_told_table_2) rfl
  obtain ⟨fd_turned_of, F_turned_of⟩ := c.d.def_ 50 (d := d_turned_of) rfl
  obtain ⟨fd_dot, F_dot⟩ := c.d.def_ 51 (d := d_dot) rfl
  obtain ⟨fd_table_led, F_table_led⟩ := c.d.def_ 52 (d := d_table_led) rfl
  obtain ⟨fd_want_form, F_want_form⟩ := c.d.def_ 53 (d := d_want_form) rfl
  obtain ⟨fd_is_row, F_is_row⟩ := c.d.def_ 54 (d := d_is_row) rfl
  obtain ⟨fd_worth_of, F_worth_of⟩ := c.d.def_ 55 (d := d_worth_of) rfl
  obtain ⟨fd_worth, F_worth⟩ := c.d.def_ 56 (d := d_worth) rfl
  obtain ⟨fd_without_square, F_without_square⟩ := c.d.def_ 57 (d := d_without_square) rfl
  obtain ⟨fd_parted_of, F_parted_of⟩ := c.d.def_ 58 (d := d_parted_of) rfl
  obtain ⟨fd_is_never_below_of, F_is_never_below_of⟩ := c.d.def_ 59 (d := d_is_never_below_of) rfl
  obtain ⟨fd_is_never_below, F_is_never_below⟩ := c.d.def_ 60 (d := d_is_never_below) rfl
  obtain ⟨fd__law_is_form, F__law_is_form⟩ := c.d.def_ 61 (d := d__law_is_form) rfl
  obtain ⟨fd__law_right, F__law_right⟩ := c.d.def_ 62 (d := d__law_right) rfl
  obtain ⟨fd_law, F_law⟩ := c.d.def_ 63 (d := d_law) rfl
  obtain ⟨fd_R__init__, F_R__init__⟩ := c.d.def_ 64 (d := d_R__init__) rfl
  obtain ⟨fd_R__add__, F_R__add__⟩ := c.d.def_ 65 (d := d_R__add__) rfl
  obtain ⟨fd_R__sub__, F_R__sub__⟩ := c.d.def_ 66 (d := d_R__sub__) rfl
  obtain ⟨fd_R__rsub__, F_R__rsub__⟩ := c.d.def_ 67 (d := d_R__rsub__) rfl
  obtain ⟨fd_R__mul__, F_R__mul__⟩ := c.d.def_ 68 (d := d_R__mul__) rfl
  obtain ⟨fd_Rover, F_Rover⟩ := c.d.def_ 69 (d := d_Rover) rfl
  obtain ⟨fd_Ris_below, F_Ris_below⟩ := c.d.def_ 70 (d := d_Ris_below) rfl
  obtain ⟨fd_R__eq__, F_R__eq__⟩ := c.d.def_ 71 (d := d_R__eq__) rfl
  obtain ⟨fd_Ris_at_most, F_Ris_at_most⟩ := c.d.def_ 72 (d := d_Ris_at_most) rfl
  obtain ⟨fd_Rsign, F_Rsign⟩ := c.a 0 (d := a_Rsign) rfl
  obtain ⟨fd_Rtop, F_Rtop⟩ := c.a 1 (d := a_Rtop) rfl
  obtain ⟨fd_Rtotal, F_Rtotal⟩ := c.a 2 (d := a_Rtotal) rfl
  obtain ⟨x1, x2⟩ := ba c.x
  obtain ⟨x1a, x1b⟩ := ba x1
  obtain ⟨x3, x4⟩ := ba x2
  obtain ⟨x5, x6⟩ := ba x4
  obtain ⟨x7, x8⟩ := ba x6
  obtain ⟨x9, x10⟩ := ba x8
  obtain ⟨x11, x12⟩ := ba x10
  obtain ⟨x13, x14⟩ := ba x12
  have cl : Cls K (cRat K) := cls_ok (c.d.fact 85 (f := .cls "Ratio") rfl)
  have RF : RatF K (cRat K) := rat_ok x3 cl (noat_ok (c.d.fact 86 (f := .noat "Ratio" "own_top") rfl)) (noat_ok (c.d.fact 87 (f := .noat "Ratio" "own_bottom") rfl))
  have gR : mg ("Ratio" : Str) = some (.ref (cRat K)) := glo_ok X G (c.d.fact 84 (f := .glo "Ratio") rfl)
  have Z : Glo K mg (cRat K) := ⟨free_ok X G (c.d.fact 64 (f := .free "isinstance") rfl), free_ok X G (c.d.fact 65 (f := .free "int") rfl), free_ok X G (c.d.fact 66 (f := .free "bool") rfl), free_ok X G (c.d.fact 67 (f := .free "list") rfl), free_ok X G (c.d.fact 68 (f := .free "tuple") rfl), free_ok X G (c.d.fact 69 (f := .free "len") rfl), free_ok X G (c.d.fact 70 (f := .free "all") rfl), free_ok X G (c.d.fact 71 (f := .free "any") rfl), free_ok X G (c.d.fact 72 (f := .free "sum") rfl), free_ok X G (c.d.fact 73 (f := .free "zip") rfl), free_ok X G (c.d.fact 74 (f := .free "enumerate") rfl), free_ok X G (c.d.fact 75 (f := .free "range") rfl), free_ok X G (c.d.fact 76 (f := .free "abs") rfl), free_ok X G (c.d.fact 77 (f := .free "max") rfl), free_ok X G (c.d.fact 78 (f := .free "divmod") rfl), PySem.W.mg_of X G (eqO_ok x1a), PySem.W.mg_of X G (eqO_ok x1b), gR, int_ok X G (c.d.fact 79 (f := .int "LEAST_PLACES" 2) rfl), int_ok X G (c.d.fact 80 (f := .int "MOST_PLACES" 6) rfl), int_ok X G (c.d.fact 81 (f := .int "MOST_PARTS" 4) rfl), int_ok X G (c.d.fact 82 (f := .int "MOST_STANDINGS" 8) rfl), RF⟩
  have g_is_integer : mg ("is_integer" : Str) = some (.ref (ga K "is_integer")) := glo_ok X G (c.d.fact 0 (f := .glo "is_integer") rfl)
  have g_divisor_of : mg ("divisor_of" : Str) = some (.ref (ga K "divisor_of")) := glo_ok X G (c.d.fact 1 (f := .glo "divisor_of") rfl)
  have g_told_pair : mg ("told_pair" : Str) = some (.ref (ga K "told_pair")) := glo_ok X G (c.d.fact 2 (f := .glo "told_pair") rfl)
  have g_is_number : mg ("is_number" : Str) = some (.ref (ga K "is_number")) := glo_ok X G (c.d.fact 3 (f := .glo "is_number") rfl)
  have g_ratio_of : mg ("ratio_of" : Str) = some (.ref (ga K "ratio_of")) := glo_ok X G (c.d.fact 4 (f := .glo "ratio_of") rfl)
  have g_want_number : mg ("want_number" : Str) = some (.ref (ga K "want_number")) := glo_ok X G (c.d.fact 5 (f := .glo "want_number") rfl)
  have g_is_list : mg ("is_list" : Str) = some (.ref (ga K "is_list")) := glo_ok X G (c.d.fact 6 (f := .glo "is_list") rfl)
  have g_total_of : mg ("total_of" : Str) = some (.ref (ga K "total_of")) := glo_ok X G (c.d.fact 7 (f := .glo "total_of") rfl)
  have g_wholes : mg ("wholes" : Str) = some (.ref (ga K "wholes")) := glo_ok X G (c.d.fact 8 (f := .glo "wholes") rfl)
  have g_ints_of : mg ("ints_of" : Str) = some (.ref (ga K "ints_of")) := glo_ok X G (c.d.fact 9 (f := .glo "ints_of") rfl)
  have g_bare_row : mg ("bare_row" : Str) = some (.ref (ga K "bare_row")) := glo_ok X G (c.d.fact 10 (f := .glo "bare_row") rfl)
  have g_cleared : mg ("cleared" : Str) = some (.ref (ga K "cleared")) := glo_ok X G (c.d.fact 11 (f := .glo "cleared") rfl)
  have g_first_at : mg ("first_at" : Str) = some (.ref (ga K "first_at")) := glo_ok X G (c.d.fact 12 (f := .glo "first_at") rfl)
  have g_headed_row : mg ("headed_row" : Str) = some (.ref (ga K "headed_row")) := glo_ok X G (c.d.fact 13 (f := .glo "headed_row") rfl)
  have g_head_of : mg ("head_of" : Str) = some (.ref (ga K "head_of")) := glo_ok X G (c.d.fact 14 (f := .glo "head_of") rfl)
  have g_told_rows : mg ("told_rows" : Str) = some (.ref (ga K "told_rows")) := glo_ok X G (c.d.fact 15 (f := .glo "told_rows") rfl)
  have g_int_steps : mg ("int_steps" : Str) = some (.ref (ga K "int_steps")) := glo_ok X G (c.d.fact 16 (f := .glo "int_steps") rfl)
  have g_steps_of : mg ("steps_of" : Str) = some (.ref (ga K "steps_of")) := glo_ok X G (c.d.fact 17 (f := .glo "steps_of") rfl)
  have g_are_numbers : mg ("are_numbers" : Str) = some (.ref (ga K "are_numbers")) := glo_ok X G (c.d.fact 18 (f := .glo "are_numbers") rfl)
  have g_is_table_of : mg ("is_table_of" : Str) = some (.ref (ga K "is_table_of")) := glo_ok X G (c.d.fact 19 (f := .glo "is_table_of") rfl)
  have g_told_table : mg ("told_table_rules" : Str) = some (.ref (ga K "told_table_rules")) := glo_ok X G (c.d.fact 20 (f := .glo "told_table_rules") rfl)
  have g_are_chances : mg ("are_chances" : Str) = some (.ref (ga K "are_chances")) := glo_ok X G (c.d.fact 21 (f := .glo "are_chances") rfl)
  have g_want_proposal : mg ("want_proposal" : Str) = some (.ref (ga K "want_proposal")) := glo_ok X G (c.d.fact 22 (f := .glo "want_proposal") rfl)
  have g_want_weights : mg ("want_weights" : Str) = some (.ref (ga K "want_weights")) := glo_ok X G (c.d.fact 23 (f := .glo "want_weights") rfl)
  have g_is_part : mg ("is_part" : Str) = some (.ref (ga K "is_part")) := glo_ok X G (c.d.fact 24 (f := .glo "is_part") rfl)
  have g_guess_in : mg ("guess_in" : Str) = some (.ref (ga K "guess_in")) := glo_ok X G (c.d.fact 25 (f := .glo "guess_in") rfl)
  have g_want_guesses : mg ("want_guesses" : Str) = some (.ref (ga K "want_guesses")) := glo_ok X G (c.d.fact 26 (f := .glo "want_guesses") rfl)
  have g_standings_of : mg ("standings_of" : Str) = some (.ref (ga K "standings_of")) := glo_ok X G (c.d.fact 27 (f := .glo "standings_of") rfl)
  have g_want_at_most : mg ("want_at_most" : Str) = some (.ref (ga K "want_at_most")) := glo_ok X G (c.d.fact 28 (f := .glo "want_at_most") rfl)
  have g_flow_between : mg ("flow_between" : Str) = some (.ref (ga K "flow_between")) := glo_ok X G (c.d.fact 29 (f := .glo "flow_between") rfl)
  have g_flows_of_standings : mg ("flows_of_standings" : Str) = some (.ref (ga K "flows_of_standings")) := glo_ok X G (c.d.fact 30 (f := .glo "flows_of_standings") rfl)
  have g_is_joined : mg ("is_joined" : Str) = some (.ref (ga K "is_joined")) := glo_ok X G (c.d.fact 31 (f := .glo "is_joined") rfl)
  have g_worths_ahead : mg ("worths_ahead" : Str) = some (.ref (ga K "worths_ahead")) := glo_ok X G (c.d.fact 32 (f := .glo "worths_ahead") rfl)
  have g_table_of_standings : mg ("table_of_standings" : Str) = some (.ref (ga K "table_of_standings")) := glo_ok X G (c.d.fact 33 (f := .glo "table_of_standings") rfl)
  have g_guessed_table : mg ("guessed_table" : Str) = some (.ref (ga K "guessed_table")) := glo_ok X G (c.d.fact 34 (f := .glo "guessed_table") rfl)
  have g__law_draw : mg ("_law_draw" : Str) = some (.ref (ga K "_law_draw")) := glo_ok X G (c.d.fact 35 (f := .glo "_law_draw") rfl)
  have g__law_pot : mg ("_law_pot" : Str) = some (.ref (ga K "_law_pot")) := glo_ok X G (c.d.fact 36 (f := .glo "_law_pot") rfl)
  have g__law_pick : mg ("_law_pick" : Str) = some (.ref (ga K "_law_pick")) := glo_ok X G (c.d.fact 37 (f := .glo "_law_pick") rfl)
  have g__law_weights : mg ("_law_weights" : Str) = some (.ref (ga K "_law_weights")) := glo_ok X G (c.d.fact 38 (f := .glo "_law_weights") rfl)
  have g__law_proposal : mg ("_law_proposal" : Str) = some (.ref (ga K "_law_proposal")) := glo_ok X G (c.d.fact 39 (f := .glo "_law_proposal") rfl)
  have g__law_two : mg ("_law_two" : Str) = some (.ref (ga K "_law_two")) := glo_ok X G (c.d.fact 40 (f := .glo "_law_two") rfl)
  have g__law_handed : mg ("_law_handed" : Str) = some (.ref (ga K "_law_handed")) := glo_ok X G (c.d.fact 41 (f := .glo "_law_handed") rfl)
  have g__law_is_joined : mg ("_law_is_joined" : Str) = some (.ref (ga K "_law_is_joined")) := glo_ok X G (c.d.fact 42 (f := .glo "_law_is_joined") rfl)
  have g_want_guess : mg ("want_guess" : Str) = some (.ref (ga K "want_guess")) := glo_ok X G (c.d.fact 43 (f := .glo "want_guess") rfl)
  have g_above : mg ("above" : Str) = some (.ref (ga K "above")) := glo_ok X G (c.d.fact 44 (f := .glo "above") rfl)
  have g_is_hinge_of : mg ("is_hinge_of" : Str) = some (.ref (ga K "is_hinge_of")) := glo_ok X G (c.d.fact 45 (f := .glo "is_hinge_of") rfl)
  have g_hinge_of : mg ("hinge_of" : Str) = some (.ref (ga K "hinge_of")) := glo_ok X G (c.d.fact 46 (f := .glo "hinge_of") rfl)
  have g_is_less_spread : mg ("is_less_spread" : Str) = some (.ref (ga K "is_less_spread")) := glo_ok X G (c.d.fact 47 (f := .glo "is_less_spread") rfl)
  have g_are_table : mg ("are_table" : Str) = some (.ref (ga K "are_table")) := glo_ok X G (c.d.fact 48 (f := .glo "are_table") rfl)
  have g_told_table_2 : mg ("told_table_tables" : Str) = some (.ref (ga K "told_table_tables")) := glo_ok X G (c.d.fact 49 (f := .glo "told_table_tables") rfl)
  have g_turned_of : mg ("turned_of" : Str) = some (.ref (ga K "turned_of")) := glo_ok X G (c.d.fact 50 (f := .glo "turned_of") rfl)
  have g_dot : mg ("dot" : Str) = some (.ref (ga K "dot")) := glo_ok X G (c.d.fact 51 (f := .glo "dot") rfl)
  have g_table_led : mg ("table_led" : Str) = some (.ref (ga K "table_led")) := glo_ok X G (c.d.fact 52 (f := .glo "table_led") rfl)
  have g_want_form : mg ("want_form" : Str) = some (.ref (ga K "want_form")) := glo_ok X G (c.d.fact 53 (f := .glo "want_form") rfl)
  have g_is_row : mg ("is_row" : Str) = some (.ref (ga K "is_row")) := glo_ok X G (c.d.fact 54 (f := .glo "is_row") rfl)
  have g_worth_of : mg ("worth_of" : Str) = some (.ref (ga K "worth_of")) := glo_ok X G (c.d.fact 55 (f := .glo "worth_of") rfl)
  have g_worth : mg ("worth" : Str) = some (.ref (ga K "worth")) := glo_ok X G (c.d.fact 56 (f := .glo "worth") rfl)
  have g_without_square : mg ("without_square" : Str) = some (.ref (ga K "without_square")) := glo_ok X G (c.d.fact 57 (f := .glo "without_square") rfl)
  have g_parted_of : mg ("parted_of" : Str) = some (.ref (ga K "parted_of")) := glo_ok X G (c.d.fact 58 (f := .glo "parted_of") rfl)
  have g_is_never_below_of : mg ("is_never_below_of" : Str) = some (.ref (ga K "is_never_below_of")) := glo_ok X G (c.d.fact 59 (f := .glo "is_never_below_of") rfl)
  have g_is_never_below : mg ("is_never_below" : Str) = some (.ref (ga K "is_never_below")) := glo_ok X G (c.d.fact 60 (f := .glo "is_never_below") rfl)
  have g__law_is_form : mg ("_law_is_form" : Str) = some (.ref (ga K "_law_is_form")) := glo_ok X G (c.d.fact 61 (f := .glo "_law_is_form") rfl)
  have g__law_right : mg ("_law_right" : Str) = some (.ref (ga K "_law_right")) := glo_ok X G (c.d.fact 62 (f := .glo "_law_right") rfl)
  have g_law : mg ("law" : Str) = some (.ref (ga K "law")) := glo_ok X G (c.d.fact 63 (f := .glo "law") rfl)
  have e := hfa.symm.trans g_law
  cases e
  have b := FunD.bindsA (ps := ["script"]) F_law fun _ _ _ _ _ _ us hl => match us, hl with | [_], _ => rfl
  refine ⟨fd_law, fun s v => b s [v] rfl, fun base _ _ => ?_⟩
  have k__law_pot : Kn__law_pot P w K mg base (cRat K) := ⟨_, _, g__law_pot, F__law_pot.kp, F__law_pot.bindsN fun _ _ _ _ _ _ us hl => match us, hl with | [_, _], _ => rfl, (ok__law_pot Z F__law_pot)⟩
  have k_is_integer : Kn_is_integer P w K mg base (cRat K) := ⟨_, _, g_is_integer, F_is_integer.kp, F_is_integer.bindsN fun _ _ _ _ _ _ us hl => match us, hl with | [_], _ => rfl, (ok_is_integer Z F_is_integer)⟩
  have k_divisor_of : Kn_divisor_of P w K mg base (cRat K) := ⟨_, _, g_divisor_of, F_divisor_of.kp, F_divisor_of.bindsN fun _ _ _ _ _ _ us hl => match us, hl with | [_, _], _ => rfl, (ok_divisor_of Z F_divisor_of)⟩
  have mk : Mkr P w K mg base (cRat K) 2 := by
    obtain ⟨d0, v0, b0⟩ := F_R__init__.binds1 (ps := ["self", "top", "bottom"]) 3 1 (by intro q; cases q) rfl fun _ _ _ _ _ _ _ us its hl h2 => match us, its, hl, h2 with | [_, _, _], [_], _, _ => ⟨_, rfl, rfl⟩
    obtain ⟨d1, v1, b1⟩ := F_R__init__.binds1 (ps := ["self", "top", "bottom"]) 2 0 (by intro q; cases q) rfl fun _ _ _ _ _ _ _ us its hl h2 => match us, its, hl, h2 with | [_, _], [_], _, _ => ⟨_, rfl, rfl⟩
    cases v0
    exact ⟨gR, _, _, d1, mkr_ok (c.d.fact 88 (f := .mkr "Ratio") rfl), (ok_R__init__ Z k_is_integer k_divisor_of F_R__init__), b0, v1, b1⟩
  have k_told_pair : Kn_told_pair P w K mg base (cRat K) := ⟨_, _, g_told_pair, F_told_pair.kp, F_told_pair.bindsN fun _ _ _ _ _ _ us hl => match us, hl with | [_], _ => rfl, (ok_told_pair Z k_is_integer F_told_pair)⟩
  have osub : Opr P w K mg base (cRat K) .Sub 6 (fun w => Fits w.1 w.2) (· - ·) := ⟨_, _, _, op_ok x7, (ok_R__sub__ Z mk k_told_pair F_R__sub__), F_R__sub__.bindsN fun _ _ _ _ _ _ us hl => match us, hl with | [_, _], _ => rfl⟩
  have oeq : EqK P w K mg base (cRat K) 1 := by
    obtain ⟨q1, q2, q3, q4⟩ := eq_ok x11
    exact ⟨_, _, q1, q2, q3, q4, (ok_R__eq__ Z F_R__eq__), F_R__eq__.bindsN fun _ _ _ _ _ _ us hl => match us, hl with | [_, _], _ => rfl⟩
  have psign : PropK P w K mg base (cRat K) "sign" 1 (sp_Rsign (cRat K)) := ⟨_, _, _, cl, prop_ok x13, (ok_Rsign Z F_Rsign), F_Rsign.bindsN fun _ _ _ _ _ _ us hl => match us, hl with | [_], _ => rfl⟩
  have matmost : MethK P w K mg base (cRat K) "is_at_most" 6 ["self", "other"] (sp_Ris_at_most (cRat K)) := ⟨_, _, cl, meth_ok (c.d.fact 91 (f := .meth "Ratio" "is_at_most") rfl), (ok_Ris_at_most Z k_told_pair F_Ris_at_most), F_Ris_at_most.bindsN fun _ _ _ _ _ _ us hl => match us, hl with | [_, _], _ => rfl⟩
  have k__law_draw : Kn__law_draw P w K mg base (cRat K) := ⟨_, _, g__law_draw, F__law_draw.kp, F__law_draw.bindsN fun _ _ _ _ _ _ us hl => match us, hl with | [_, _], _ => rfl, (ok__law_draw Z F__law_draw)⟩
  have k__law_pick : Kn__law_pick P w K mg base (cRat K) := ⟨_, _, g__law_pick, F__law_pick.kp, F__law_pick.bindsN fun _ _ _ _ _ _ us hl => match us, hl with | [_, _], _ => rfl, (ok__law_pick Z k__law_draw F__law_pick)⟩
  have k__law_proposal : Kn__law_proposal P w K mg base (cRat K) := ⟨_, _, g__law_proposal, F__law_proposal.kp, F__law_proposal.bindsN fun _ _ _ _ _ _ us hl => match us, hl with | [_, _], _ => rfl, (ok__law_proposal Z k__law_draw mk F__law_proposal)⟩
  have k__law_weights : Kn__law_weights P w K mg base (cRat K) := ⟨_, _, g__law_weights, F__law_weights.kp, F__law_weights.bindsN fun _ _ _ _ _ _ us hl => match us, hl with | [_, _], _ => rfl, (ok__law_weights Z k__law_draw F__law_weights)⟩
  have oadd : Opr P w K mg base (cRat K) .Add 6 (fun w => Fits w.1 w.2) (· + ·) := ⟨_, _, _, op_ok x5, (ok_R__add__ Z mk k_told_pair F_R__add__), F_R__add__.bindsN fun _ _ _ _ _ _ us hl => match us, hl with | [_, _], _ => rfl⟩
  have k__law_two : Kn__law_two P w K mg base (cRat K) := ⟨_, _, g__law_two, F__law_two.kp, F__law_two.bindsN fun _ _ _ _ _ _ us hl => match us, hl with | [_], _ => rfl, (ok__law_two Z mk oadd k__law_pick F__law_two)⟩
  have k__law_is_joined : Kn__law_is_joined P w K mg base (cRat K) := ⟨_, _, g__law_is_joined, F__law_is_joined.kp, F__law_is_joined.bindsN fun _ _ _ _ _ _ us hl => match us, hl with | [_], _ => rfl, (ok__law_is_joined Z psign F__law_is_joined)⟩
  have k__law_handed : Kn__law_handed P w K mg base (cRat K) := ⟨_, _, g__law_handed, F__law_handed.kp, F__law_handed.bindsN fun _ _ _ _ _ _ us hl => match us, hl with | [_], _ => rfl, (ok__law_handed Z mk F__law_handed)⟩
  have k_is_list : Kn_is_list P w K mg base (cRat K) := ⟨_, _, g_is_list, F_is_list.kp, F_is_list.bindsN fun _ _ _ _ _ _ us hl => match us, hl with | [_], _ => rfl, (ok_is_list Z F_is_list)⟩
  have k_is_number : Kn_is_number P w K mg base (cRat K) := ⟨_, _, g_is_number, F_is_number.kp, F_is_number.bindsN fun _ _ _ _ _ _ us hl => match us, hl with | [_], _ => rfl, (ok_is_number Z k_is_integer F_is_number)⟩
  have k_ratio_of : Kn_ratio_of P w K mg base (cRat K) := ⟨_, _, g_ratio_of, F_ratio_of.kp, F_ratio_of.bindsN fun _ _ _ _ _ _ us hl => match us, hl with | [_], _ => rfl, (ok_ratio_of Z mk F_ratio_of)⟩
  have k_is_part : Kn_is_part P w K mg base (cRat K) := ⟨_, _, g_is_part, F_is_part.kp, F_is_part.bindsN fun _ _ _ _ _ _ us hl => match us, hl with | [_], _ => rfl, (ok_is_part Z k_is_number k_ratio_of psign F_is_part)⟩
  have mbelow : MethK P w K mg base (cRat K) "is_below" 6 ["self", "other"] (sp_Ris_below (cRat K)) := ⟨_, _, cl, meth_ok (c.d.fact 90 (f := .meth "Ratio" "is_below") rfl), (ok_Ris_below Z k_told_pair F_Ris_below), F_Ris_below.bindsN fun _ _ _ _ _ _ us hl => match us, hl with | [_, _], _ => rfl⟩
  have omul : Opr P w K mg base (cRat K) .Mult 6 (fun w => Fits w.1 w.2) (· * ·) := ⟨_, _, _, op_ok x9, (ok_R__mul__ Z mk k_told_pair F_R__mul__), F_R__mul__.bindsN fun _ _ _ _ _ _ us hl => match us, hl with | [_, _], _ => rfl⟩
  have k_total_of : Kn_total_of P w K mg base (cRat K) := ⟨_, _, g_total_of, F_total_of.kp, F_total_of.bindsN fun _ _ _ _ _ _ us hl => match us, hl with | [_], _ => rfl, (ok_total_of Z mk oadd F_total_of)⟩
  have k_guess_in : Kn_guess_in P w K mg base (cRat K) := ⟨_, _, g_guess_in, F_guess_in.kp, F_guess_in.bindsN fun _ _ _ _ _ _ us hl => match us, hl with | [_], _ => rfl, (ok_guess_in Z k_is_list k_is_part k_ratio_of mbelow omul k_total_of mk oeq F_guess_in)⟩
  have k_want_guess : Kn_want_guess P w K mg base (cRat K) := ⟨_, _, g_want_guess, F_want_guess.kp, F_want_guess.bindsN fun _ _ _ _ _ _ us hl => match us, hl with | [_], _ => rfl, (ok_want_guess Z k_guess_in F_want_guess)⟩
  have k_above : Kn_above P w K mg base (cRat K) := ⟨_, _, g_above, F_above.kp, F_above.bindsN fun _ _ _ _ _ _ us hl => match us, hl with | [_, _], _ => rfl, (ok_above Z omul osub k_total_of mbelow F_above)⟩
  have k_is_hinge_of : Kn_is_hinge_of P w K mg base (cRat K) := ⟨_, _, g_is_hinge_of, F_is_hinge_of.kp, F_is_hinge_of.bindsN fun _ _ _ _ _ _ us hl => match us, hl with | [_, _, _], _ => rfl, (ok_is_hinge_of Z k_above mbelow F_is_hinge_of)⟩
  have k_hinge_of : Kn_hinge_of P w K mg base (cRat K) := ⟨_, _, g_hinge_of, F_hinge_of.kp, F_hinge_of.bindsN fun _ _ _ _ _ _ us hl => match us, hl with | [_, _], _ => rfl, (ok_hinge_of Z k_is_hinge_of F_hinge_of)⟩
  have k_is_less_spread : Kn_is_less_spread P w K mg base (cRat K) := ⟨_, _, g_is_less_spread, F_is_less_spread.kp, F_is_less_spread.bindsN fun _ _ _ _ _ _ us hl => match us, hl with | [_, _], _ => rfl, (ok_is_less_spread Z k_want_guess k_hinge_of F_is_less_spread)⟩
  have k_are_numbers : Kn_are_numbers P w K mg base (cRat K) := ⟨_, _, g_are_numbers, F_are_numbers.kp, F_are_numbers.bindsN fun _ _ _ _ _ _ us hl => match us, hl with | [_, _], _ => rfl, (ok_are_numbers Z k_is_list k_is_number F_are_numbers)⟩
  have k_is_table_of : Kn_is_table_of P w K mg base (cRat K) := ⟨_, _, g_is_table_of, F_is_table_of.kp, F_is_table_of.bindsN fun _ _ _ _ _ _ us hl => match us, hl with | [_, _], _ => rfl, (ok_is_table_of Z k_is_list k_are_numbers F_is_table_of)⟩
  have k_told_table : Kn_told_table P w K mg base (cRat K) := ⟨_, _, g_told_table, F_told_table.kp, F_told_table.bindsN fun _ _ _ _ _ _ us hl => match us, hl with | [_], _ => rfl, (ok_told_table Z k_ratio_of F_told_table)⟩
  have k_are_chances : Kn_are_chances P w K mg base (cRat K) := ⟨_, _, g_are_chances, F_are_chances.kp, F_are_chances.bindsN fun _ _ _ _ _ _ us hl => match us, hl with | [_], _ => rfl, (ok_are_chances Z psign k_total_of mk oeq F_are_chances)⟩
  have k_want_proposal : Kn_want_proposal P w K mg base (cRat K) := ⟨_, _, g_want_proposal, F_want_proposal.kp, F_want_proposal.bindsN fun _ _ _ _ _ _ us hl => match us, hl with | [_], _ => rfl, (ok_want_proposal Z k_is_list k_is_table_of k_told_table k_are_chances F_want_proposal)⟩
  have k_want_weights : Kn_want_weights P w K mg base (cRat K) := ⟨_, _, g_want_weights, F_want_weights.kp, F_want_weights.bindsN fun _ _ _ _ _ _ us hl => match us, hl with | [_, _], _ => rfl, (ok_want_weights Z k_are_numbers k_ratio_of psign F_want_weights)⟩
  have k_standings_of : Kn_standings_of P w K mg base (cRat K) := ⟨_, _, g_standings_of, F_standings_of.kp, F_standings_of.bindsN fun _ _ _ _ _ _ us hl => match us, hl with | [_], _ => rfl, (ok_standings_of Z psign F_standings_of)⟩
  have k_want_guesses : Kn_want_guesses P w K mg base (cRat K) := ⟨_, _, g_want_guesses, F_want_guesses.kp, F_want_guesses.bindsN fun _ _ _ _ _ _ us hl => match us, hl with | [_, _], _ => rfl, (ok_want_guesses Z k_is_list k_guess_in F_want_guesses)⟩
  have k_flow_between : Kn_flow_between P w K mg base (cRat K) := ⟨_, _, g_flow_between, F_flow_between.kp, F_flow_between.bindsN fun _ _ _ _ _ _ us hl => match us, hl with | [_, _, _, _], _ => rfl, (ok_flow_between Z omul mbelow F_flow_between)⟩
  have k_flows_of_standings : Kn_flows_of_standings P w K mg base (cRat K) := ⟨_, _, g_flows_of_standings, F_flows_of_standings.kp, F_flows_of_standings.bindsN fun _ _ _ _ _ _ us hl => match us, hl with | [_, _, _], _ => rfl, (ok_flows_of_standings Z mk k_flow_between F_flows_of_standings)⟩
  have k_is_joined : Kn_is_joined P w K mg base (cRat K) := ⟨_, _, g_is_joined, F_is_joined.kp, F_is_joined.bindsN fun _ _ _ _ _ _ us hl => match us, hl with | [_], _ => rfl, (ok_is_joined Z psign F_is_joined)⟩
  have k_want_at_most : Kn_want_at_most P w K mg base (cRat K) := ⟨_, _, g_want_at_most, F_want_at_most.kp, F_want_at_most.bindsN fun _ _ _ _ _ _ us hl => match us, hl with | [_, _, _], _ => rfl, (ok_want_at_most  F_want_at_most)⟩
  have orsub : OprR P w K mg base (cRat K) .Sub 6 (fun w => Fits w.1 w.2) (fun q r => r - q) := ⟨_, _, _, op_ok x7, (ok_R__rsub__ Z mk k_told_pair F_R__rsub__), F_R__rsub__.bindsN fun _ _ _ _ _ _ us hl => match us, hl with | [_, _], _ => rfl⟩
  have mover : MethK P w K mg base (cRat K) "over" 6 ["self", "other"] (sp_Rover (cRat K)) := ⟨_, _, cl, meth_ok (c.d.fact 89 (f := .meth "Ratio" "over") rfl), (ok_Rover Z mk k_told_pair F_Rover), F_Rover.bindsN fun _ _ _ _ _ _ us hl => match us, hl with | [_, _], _ => rfl⟩
  have k_head_of : Kn_head_of P w K mg base (cRat K) := ⟨_, _, g_head_of, F_head_of.kp, F_head_of.bindsN fun _ _ _ _ _ _ us hl => match us, hl with | [_], _ => rfl, (ok_head_of Z F_head_of)⟩
  have k_told_rows : Kn_told_rows P w K mg base (cRat K) := ⟨_, _, g_told_rows, F_told_rows.kp, F_told_rows.bindsN fun _ _ _ _ _ _ us hl => match us, hl with | [_], _ => rfl, (ok_told_rows Z mk k_head_of F_told_rows)⟩
  have k_first_at : Kn_first_at P w K mg base (cRat K) := ⟨_, _, g_first_at, F_first_at.kp, F_first_at.bindsN fun _ _ _ _ _ _ us hl => match us, hl with | [_, _], _ => rfl, (ok_first_at Z F_first_at)⟩
  have k_bare_row : Kn_bare_row P w K mg base (cRat K) := ⟨_, _, g_bare_row, F_bare_row.kp, F_bare_row.bindsN fun _ _ _ _ _ _ us hl => match us, hl with | [_], _ => rfl, (ok_bare_row Z k_divisor_of F_bare_row)⟩
  have k_headed_row : Kn_headed_row P w K mg base (cRat K) := ⟨_, _, g_headed_row, F_headed_row.kp, F_headed_row.bindsN fun _ _ _ _ _ _ us hl => match us, hl with | [_, _], _ => rfl, (ok_headed_row Z k_bare_row F_headed_row)⟩
  have k_cleared : Kn_cleared P w K mg base (cRat K) := ⟨_, _, g_cleared, F_cleared.kp, F_cleared.bindsN fun _ _ _ _ _ _ us hl => match us, hl with | [_, _, _], _ => rfl, (ok_cleared Z k_bare_row F_cleared)⟩
  have k_int_steps : Kn_int_steps P w K mg base (cRat K) := ⟨_, _, g_int_steps, F_int_steps.kp, F_int_steps.bindsN fun _ _ _ _ _ _ us hl => match us, hl with | [_], _ => rfl, (ok_int_steps Z k_first_at k_headed_row k_cleared F_int_steps)⟩
  have k_wholes : Kn_wholes P w K mg base (cRat K) := ⟨_, _, g_wholes, F_wholes.kp, F_wholes.bindsN fun _ _ _ _ _ _ us hl => match us, hl with | [_], _ => rfl, (ok_wholes Z F_wholes)⟩
  have k_ints_of : Kn_ints_of P w K mg base (cRat K) := ⟨_, _, g_ints_of, F_ints_of.kp, F_ints_of.bindsN fun _ _ _ _ _ _ us hl => match us, hl with | [_], _ => rfl, (ok_ints_of Z k_wholes F_ints_of)⟩
  have k_steps_of : Kn_steps_of P w K mg base (cRat K) := ⟨_, _, g_steps_of, F_steps_of.kp, F_steps_of.bindsN fun _ _ _ _ _ _ us hl => match us, hl with | [_], _ => rfl, (ok_steps_of Z k_told_rows k_int_steps k_ints_of F_steps_of)⟩
  have ptop : PropK P w K mg base (cRat K) "top" 1 (sp_Rtop (cRat K)) := ⟨_, _, _, cl, prop_ok (ba x14).1, (ok_Rtop Z F_Rtop), F_Rtop.bindsN fun _ _ _ _ _ _ us hl => match us, hl with | [_], _ => rfl⟩
  have k_worths_ahead : Kn_worths_ahead P w K mg base (cRat K) := ⟨_, _, g_worths_ahead, F_worths_ahead.kp, F_worths_ahead.bindsN fun _ _ _ _ _ _ us hl => match us, hl with | [_, _], _ => rfl, (ok_worths_ahead Z mk osub k_total_of k_steps_of k_head_of ptop F_worths_ahead)⟩
  have k_table_of_standings : Kn_table_of_standings P w K mg base (cRat K) := ⟨_, _, g_table_of_standings, F_table_of_standings.kp, F_table_of_standings.bindsN fun _ _ _ _ _ _ us hl => match us, hl with | [_, _, _], _ => rfl, (ok_table_of_standings Z omul osub orsub mover k_total_of k_worths_ahead F_table_of_standings)⟩
  have k_guessed_table : Kn_guessed_table P w K mg base (cRat K) := ⟨_, _, g_guessed_table, F_guessed_table.kp, F_guessed_table.bindsN fun _ _ _ _ _ _ us hl => match us, hl with | [_, _, _], _ => rfl, (ok_guessed_table Z k_want_proposal k_want_weights k_standings_of k_want_guesses k_flows_of_standings k_is_joined k_want_at_most k_table_of_standings F_guessed_table)⟩
  have kwg : KnK P w K mg base "guessed_table" 10 ["proposal", "weights", "guesses"] (sp_guessed_table (cRat K)) 1 ["guesses", "weights"] (fun vs ws => vs ++ [ws.getD 1 .non, ws.getD 0 .non]) := ⟨_, _, fun us ws => us ++ [ws.getD 1 .none, ws.getD 0 .none], g_guessed_table, F_guessed_table.kp, kbn_of F_guessed_table 1 ["guesses", "weights"] _ _ (fun r1 r => r1.append (.cons (Vals.getD r 1) (.cons (Vals.getD r 0) .nil))) (fun _ _ _ _ _ _ us ws hl h2 => match us, ws, hl, h2 with | [_], [_, _], _, _ => rfl), (ok_guessed_table Z k_want_proposal k_want_weights k_standings_of k_want_guesses k_flows_of_standings k_is_joined k_want_at_most k_table_of_standings F_guessed_table)⟩
  have k__law_is_form : Kn__law_is_form P w K mg base (cRat K) := ⟨_, _, g__law_is_form, F__law_is_form.kp, F__law_is_form.bindsN fun _ _ _ _ _ _ us hl => match us, hl with | [_], _ => rfl, (ok__law_is_form Z omul osub psign F__law_is_form)⟩
  have msz := int_ok X G (c.d.fact 83 (f := .int "MOST_SIZE" 12) rfl)
  have k_are_table : Kn_are_table P w K mg base (cRat K) := ⟨_, _, g_are_table, F_are_table.kp, F_are_table.bindsN fun _ _ _ _ _ _ us hl => match us, hl with | [_, _, _], _ => rfl, (ok_are_table Z k_is_list k_is_number F_are_table)⟩
  have k_told_table_2 : Kn_told_table_2 P w K mg base (cRat K) := ⟨_, _, g_told_table_2, F_told_table_2.kp, F_told_table_2.bindsN fun _ _ _ _ _ _ us hl => match us, hl with | [_], _ => rfl, (ok_told_table_2 Z k_ratio_of F_told_table_2)⟩
  have k_turned_of : Kn_turned_of P w K mg base (cRat K) := ⟨_, _, g_turned_of, F_turned_of.kp, F_turned_of.bindsN fun _ _ _ _ _ _ us hl => match us, hl with | [_], _ => rfl, (ok_turned_of Z F_turned_of)⟩
  have k_want_form : Kn_want_form P w K mg base (cRat K) := ⟨_, _, g_want_form, F_want_form.kp, F_want_form.bindsN fun _ _ _ _ _ _ us hl => match us, hl with | [_], _ => rfl, (ok_want_form Z msz k_are_table k_told_table_2 k_turned_of oeq F_want_form)⟩
  have k_without_square : Kn_without_square P w K mg base (cRat K) := ⟨_, _, g_without_square, F_without_square.kp, F_without_square.bindsN fun _ _ _ _ _ _ us hl => match us, hl with | [_, _, _, _], _ => rfl, (ok_without_square Z omul osub psign F_without_square)⟩
  have k_parted_of : Kn_parted_of P w K mg base (cRat K) := ⟨_, _, g_parted_of, F_parted_of.kp, F_parted_of.bindsN fun _ _ _ _ _ _ us hl => match us, hl with | [_], _ => rfl, (ok_parted_of Z k_without_square psign mover F_parted_of)⟩
  have k_is_never_below_of : Kn_is_never_below_of P w K mg base (cRat K) := ⟨_, _, g_is_never_below_of, F_is_never_below_of.kp, F_is_never_below_of.bindsN fun _ _ _ _ _ _ us hl => match us, hl with | [_], _ => rfl, (ok_is_never_below_of Z k_parted_of F_is_never_below_of)⟩
  have k_is_never_below : Kn_is_never_below P w K mg base (cRat K) := ⟨_, _, g_is_never_below, F_is_never_below.kp, F_is_never_below.bindsN fun _ _ _ _ _ _ us hl => match us, hl with | [_], _ => rfl, (ok_is_never_below Z k_want_form k_is_never_below_of F_is_never_below)⟩
  have k_is_row : Kn_is_row P w K mg base (cRat K) := ⟨_, _, g_is_row, F_is_row.kp, F_is_row.bindsN fun _ _ _ _ _ _ us hl => match us, hl with | [_, _], _ => rfl, (ok_is_row Z k_is_list k_is_number F_is_row)⟩
  have k_dot : Kn_dot P w K mg base (cRat K) := ⟨_, _, g_dot, F_dot.kp, F_dot.bindsN fun _ _ _ _ _ _ us hl => match us, hl with | [_, _], _ => rfl, (ok_dot Z k_total_of omul psign F_dot)⟩
  have k_table_led : Kn_table_led P w K mg base (cRat K) := ⟨_, _, g_table_led, F_table_led.kp, F_table_led.bindsN fun _ _ _ _ _ _ us hl => match us, hl with | [_, _], _ => rfl, (ok_table_led Z k_dot F_table_led)⟩
  have k_worth_of : Kn_worth_of P w K mg base (cRat K) := ⟨_, _, g_worth_of, F_worth_of.kp, F_worth_of.bindsN fun _ _ _ _ _ _ us hl => match us, hl with | [_, _], _ => rfl, (ok_worth_of Z k_dot k_table_led F_worth_of)⟩
  have k_worth : Kn_worth P w K mg base (cRat K) := ⟨_, _, g_worth, F_worth.kp, F_worth.bindsN fun _ _ _ _ _ _ us hl => match us, hl with | [_, _], _ => rfl, (ok_worth Z k_want_form k_is_row k_worth_of k_ratio_of F_worth)⟩
  have kww : KnK P w K mg base "worth" 11 ["form", "row"] (sp_worth (cRat K)) 0 ["form", "row"] (fun vs ws => vs ++ ws) := ⟨_, _, fun us ws => us ++ ws, g_worth, F_worth.kp, kbn_of F_worth 0 ["form", "row"] _ _ (fun r1 r2 => r1.append r2) (fun _ _ _ _ _ _ us ws hl h2 => match us, ws, hl, h2 with | [], [_, _], _, _ => rfl), (ok_worth Z k_want_form k_is_row k_worth_of k_ratio_of F_worth)⟩
  have k__law_right : Kn__law_right P w K mg base (cRat K) := ⟨_, _, g__law_right, F__law_right.kp, F__law_right.bindsN fun _ _ _ _ _ _ us hl => match us, hl with | [_], _ => rfl, (ok__law_right Z mathQ mk osub oeq psign matmost k__law_draw k__law_pick k__law_proposal k__law_weights k__law_two k__law_is_joined k__law_handed k_is_less_spread k_guessed_table kwg k__law_is_form k_is_never_below k_worth kww F__law_right)⟩
  exact ok_law Z k__law_pot k__law_right F_law
end Gw
set_option maxHeartbeats 0
open PySem PySem.W PySem.Calls PyProof.Rows
theorem PySem.Challenge.cw_walkworths_k84_whole_less_spread_guesses_holds : PySem.Challenge.rw_walkworths_k84_whole_less_spread_guesses.Holds := by
  w_on; o_law
  refine HandSHeadRun.head_imp (r := Gw.hR) (q := view Gw.hR.prog [0, 100]) (H := Gw.hk) (ob := Gw.hOb) (M := 20000) (loose := Gw.hLoose) (d := HandSHeadRun.topDef Gw.hR.prog 100) (kwd := []) Gw.hOb_eq Gw.hRun
    (by kernel_rfl) (by kernel_rfl) (by kernel_rfl) (by rfl) (by first | assumption | decide +kernel) (by decide +kernel) ⟨rfl, rfl, rfl, rfl, rfl, by decide +kernel⟩ ?hw ?hc
  case hw => w_witness2
  case hc =>
    refine L2.walk_ofE (l := PySem.Challenge.rw_walkworths_k84_whole_less_spread_guesses) (n := 63) (k := 16) (x := "script") (CX := L2.CX0) rfl (by decide) (by kernel_rfl) ⟨rfl, by decide, by decide⟩ ?F (fun _ _ _ _ z => z)
    intro w mg fa h Y G hmg0
    obtain ⟨K, KX, c⟩ := Y
    have hmg : mg ("law" : PySem.Str) = some (.ref fa) := by
      have e : (HandSHeadRun.topDef Gw.hR.prog 100).name = ("law" : PySem.Str) := by kernel_rfl
      rw [← e]
      exact hmg0
    obtain ⟨fd, hb, hF⟩ := Gw.hFacts (P := (PySem.Challenge.rw_walkworths_k84_whole_less_spread_guesses).prog) (w := w) KX G hmg c
    exact ⟨K, fd, Gw.spLaw K, KX, hb, fun H a ns hl _ hS => ⟨a, ns, rfl, hS, fun _ => rfl⟩, hF⟩
