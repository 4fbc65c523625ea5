import PyProof.Rows.All
import Wide.All
import OpenK.AllK
import Wide.FinOn
import HandS.Head3
import HandS.Head0
import HandS.Head1
import HandS.Head2
import HandS.HeadEnd
import HandS.HeadHook1
import HandS.HeadHook2
import PyProof.EqAt
import PyProof.EqKinds
import PyProof.TupleCall
import HandS.ForMost
import HandS.Walk
import HandS.Zip
import HandS.Style
import HandS.Flow
import HandS.IsInst
import HandS.Property
import HandS.ClsMeth
import HandS.Gcd
import HandS.Conv
import HandS.Wide
import HandS.Defaults
import HandS.OwnEq
import KE.KMathGC
import PyProof.InstNe
import PyProof.ListMulAny
import KE.KOpsOwn
import HandS.ExcOwn
import HandS.TryOnly
import HandS.WordsExc
import PyProof.ReprNest
import PyProof.StrLawsRepr
import PyProof.ReprDict
import KE.KCallOwn
import KE.GoesZip
import HandS.FStr
import HandS.Text
import PyProof.FitsInt
import HandS.MakeKw
import PySem.Challenge.RW_walkworths_k82_any_value_as_splitting_or
set_option Elab.async false
set_option linter.all false
set_option maxRecDepth 100000
set_option exponentiation.threshold 100000
set_option maxHeartbeats 4000000
/-! Triples over the hand layer: what is known of each slot (Sl), the frozen part F of the heap H, judgements by predicates on values that stand when the frozen part grows. -/
namespace Gw
open PySem PySem.Spec PyProof.Rows L2

/-! ### heaps -/
def Ex (H H' : Hp) : Prop := ∀ a o, H a = some o → H' a = some o
theorem Ex.refl (H : Hp) : Ex H H := fun _ _ h => h
theorem Ex.trans {H H1 H2 : Hp} (a : Ex H H1) (b : Ex H1 H2) : Ex H H2 := fun x o h => b x o (a x o h)
theorem Ex.new {H : Hp} {p : Addr} {o : HO} (h : H p = none) : Ex H (upd H p o) := fun a u e => by
  rw [upd_ne (ne_of_none e h)]
  exact e
theorem Ex.back {H H' : Hp} {p : Addr} (e : Ex H H') (h : H' p = none) : H p = none := by
  cases h1 : H p with
  | none => rfl
  | some o =>
    rw [e p o h1] at h
    cases h
theorem upd_none {H : Hp} {p a : Addr} {o : HO} (h : upd H p o a = none) : a ≠ p ∧ H a = none := by
  by_cases e : a = p
  · rw [e, upd_same] at h
    cases h
  · rw [upd_ne e] at h
    exact ⟨e, h⟩
/-- a predicate at all later frozen parts -/
def Up {α : Type} (R : α → Hp → Prop) (v : α) (F : Hp) : Prop := ∀ F', Ex F F' → R v F'
theorem Up.mono {α : Type} {R : α → Hp → Prop} {v : α} {F F' : Hp} (u : Up R v F) (e : Ex F F') : Up R v F' := fun F2 e2 => u F2 (e.trans e2)
theorem Up.here {α : Type} {R : α → Hp → Prop} {v : α} {F : Hp} (u : Up R v F) : R v F := u F (Ex.refl F)
theorem Up.imp {α : Type} {R R' : α → Hp → Prop} {v : α} {F : Hp} (u : Up R v F) (h : ∀ F, R v F → R' v F) : Up R' v F := fun F' e => h F' (u F' e)
/-- the law's list of two numbers -/
def PotAt (H : Hp) (a : Addr) : Prop := ∃ x y : Int, H a = some (.lst [.int x, .int y]) ∧ 0 ≤ x ∧ 0 ≤ y ∧ y < 2 ^ 40
structure Ok (pp : Option Addr) (F H : Hp) : Prop where
  s : Ex F H
  p : ∀ a, pp = some a → F a = none ∧ PotAt H a
/-- from F, H to F', H': objects are made, the law's list may turn, nothing else -/
structure Gr (pp : Option Addr) (F H F' H' : Hp) : Prop where
  f : Ex F F'
  s : Ex F' H'
  k : ∀ a o, H a = some o → pp ≠ some a → H' a = some o
  n : ∀ a o, F' a = some o → F a = some o ∨ H a = none
  p : ∀ a, pp = some a → F' a = none ∧ PotAt H' a
theorem Gr.ok {pp : Option Addr} {F H F' H' : Hp} (g : Gr pp F H F' H') : Ok pp F' H' := ⟨g.s, g.p⟩
theorem Ok.gr {pp : Option Addr} {F H : Hp} (o : Ok pp F H) : Gr pp F H F H := ⟨Ex.refl F, o.s, fun _ _ h _ => h, fun _ _ h => .inl h, o.p⟩
theorem Gr.back {pp : Option Addr} {F H F' H' : Hp} (g : Gr pp F H F' H') {a : Addr} (h : H' a = none) : H a = none := by
  cases e : H a with
  | none => rfl
  | some o =>
    by_cases hp : pp = some a
    · obtain ⟨_, x, y, e2, _⟩ := g.p a hp
      rw [e2] at h
      cases h
    · rw [g.k a o e hp] at h
      cases h
theorem Gr.trans {pp : Option Addr} {F H F1 H1 F2 H2 : Hp} (a : Gr pp F H F1 H1) (b : Gr pp F1 H1 F2 H2) : Gr pp F H F2 H2 where
  f := a.f.trans b.f
  s := b.s
  k := fun x o h hp => b.k x o (a.k x o h hp) hp
  n := fun x o h => by
    rcases b.n x o h with e | e
    · exact a.n x o e
    · exact .inr (a.back e)
  p := b.p
theorem Gr.new {pp : Option Addr} {F H : Hp} {p : Addr} {o : HO} (k : Ok pp F H) (h : H p = none) : Gr pp F H (upd F p o) (upd H p o) where
  f := Ex.new (k.s.back h)
  s := fun a u e => by
    by_cases q : a = p
    · rw [q, upd_same] at e ⊢
      exact e
    · rw [upd_ne q] at e ⊢
      exact k.s a u e
  k := fun a u e _ => by
    rw [upd_ne (ne_of_none e h)]
    exact e
  n := fun a u e => by
    by_cases q : a = p
    · rw [q]
      exact .inr h
    · rw [upd_ne q] at e
      exact .inl e
  p := fun a ha => by
    obtain ⟨h1, x, y, h2, h3⟩ := k.p a ha
    have q : a ≠ p := ne_of_none h2 h
    rw [upd_ne q]
    exact ⟨h1, x, y, by rw [upd_ne q]; exact h2, h3⟩
/-- a new object that is not frozen -/
theorem Gr.raw {pp : Option Addr} {F H : Hp} {p : Addr} {o : HO} (k : Ok pp F H) (h : H p = none) : Gr pp F H F (upd H p o) where
  f := Ex.refl F
  s := fun a u e => by
    rw [upd_ne (ne_of_none (k.s a u e) h)]
    exact k.s a u e
  k := fun a u e _ => by
    rw [upd_ne (ne_of_none e h)]
    exact e
  n := fun a u e => .inl e
  p := fun a ha => by
    obtain ⟨h1, x, y, h2, h3⟩ := k.p a ha
    have q : a ≠ p := ne_of_none h2 h
    exact ⟨h1, x, y, by rw [upd_ne q]; exact h2, h3⟩
theorem Ok.none {pp : Option Addr} {F H : Hp} (o : Ok pp F H) : Ok none F H := ⟨o.s, fun _ h => nomatch h⟩
theorem Gr.lift {pp : Option Addr} {F H F' H' : Hp} (o : Ok pp F H) (g : Gr none F H F' H') : Gr pp F H F' H' where
  f := g.f
  s := g.s
  k := fun a u e _ => g.k a u e (fun z => nomatch z)
  n := g.n
  p := fun a ha => by
    obtain ⟨h1, x, y, h2, h3⟩ := o.p a ha
    refine ⟨?_, x, y, g.k a _ h2 (fun z => nomatch z), h3⟩
    cases e : F' a with
    | none => rfl
    | some u =>
      rcases g.n a u e with q | q
      · rw [h1] at q
        cases q
      · rw [h2] at q
        cases q

/-! ### slots -/
inductive Sl where
  | un
  | fz (R : V → Hp → Prop)
  | mt (R : List V → Hp → Prop)
  | pot
structure En where
  F : Hp
  H : Hp
  pp : Option Addr
abbrev Bs (E : En) (F H : Hp) : Prop := Gr E.pp E.F E.H F H
structure Sat (E : En) (G : List Sl) (σ : L2.St) (F H : Hp) : Prop where
  len : σ.length = G.length
  bs : Bs E F H
  p0 : ∀ a, E.pp = some a → ∃ o, E.H a = some o
  fz : ∀ (i : Nat) (R : V → Hp → Prop), G[i]? = some (Sl.fz R) → ∃ v, σ[i]? = some (some v) ∧ Up R v F
  mt : ∀ (i : Nat) (R : List V → Hp → Prop), G[i]? = some (Sl.mt R) → ∃ p vs, σ[i]? = some (some (.ref p)) ∧ F p = none ∧ E.H p = none ∧ H p = some (.lst vs) ∧ Up R vs F
  ap : ∀ (i j : Nat) (R S : List V → Hp → Prop) (p : Addr), i ≠ j → G[i]? = some (Sl.mt R) → G[j]? = some (Sl.mt S) → σ[i]? = some (some (.ref p)) → σ[j]? = some (some (.ref p)) → False
  pt : ∀ (i : Nat), G[i]? = some Sl.pot → ∃ p, σ[i]? = some (some (.ref p)) ∧ E.pp = some p
section
variable {E : En} {G : List Sl} {σ : L2.St} {F H F' H' : Hp}
theorem Sat.ok (S : Sat E G σ F H) : Ok E.pp F H := S.bs.ok
theorem Sat.refl (S : Sat E G σ F H) : Gr E.pp F H F H := S.ok.gr
theorem Sat.npot (S : Sat E G σ F H) {p : Addr} (h : E.H p = none) : E.pp ≠ some p := fun e => by
  obtain ⟨o, q⟩ := S.p0 p e
  rw [q] at h
  cases h
theorem Sat.gr (S : Sat E G σ F H) (g : Gr E.pp F H F' H') : Sat E G σ F' H' where
  len := S.len
  bs := S.bs.trans g
  p0 := S.p0
  fz := fun i R h => by
    obtain ⟨v, e, u⟩ := S.fz i R h
    exact ⟨v, e, u.mono g.f⟩
  mt := fun i R h => by
    obtain ⟨p, vs, e, h1, h2, h3, h4⟩ := S.mt i R h
    refine ⟨p, vs, e, ?_, h2, g.k p _ h3 (S.npot h2), h4.mono g.f⟩
    cases q : F' p with
    | none => rfl
    | some o =>
      rcases g.n p o q with z | z
      · rw [h1] at z
        cases z
      · rw [h3] at z
        cases z
  ap := S.ap
  pt := S.pt
theorem Sat.set_fz (S : Sat E G σ F H) {i : Nat} {R : V → Hp → Prop} {v : V} (u : Up R v F) : Sat E (G.set i (.fz R)) (σ.set i (some v)) F H where
  len := by rw [List.length_set, List.length_set]; exact S.len
  bs := S.bs
  p0 := S.p0
  fz := fun j R' h => by
    by_cases e : j = i
    · subst e
      have hl : j < G.length := by
        have := (List.getElem?_eq_some_iff.mp h).1
        simpa using this
      rw [List.getElem?_set_self hl] at h
      cases h
      exact ⟨v, List.getElem?_set_self (by rw [S.len]; exact hl), u⟩
    · rw [List.getElem?_set_ne (Ne.symm e)] at h ⊢
      exact S.fz j R' h
  mt := fun j R' h => by
    by_cases e : j = i
    · subst e
      have hl : j < G.length := by
        have := (List.getElem?_eq_some_iff.mp h).1
        simpa using this
      rw [List.getElem?_set_self hl] at h
      cases h
    · rw [List.getElem?_set_ne (Ne.symm e)] at h ⊢
      exact S.mt j R' h
  ap := fun j k R1 R2 p ne h1 h2 e1 e2 => by
    have n1 : j ≠ i := fun e => by
      subst e
      have hl : j < G.length := by
        have := (List.getElem?_eq_some_iff.mp h1).1
        simpa using this
      rw [List.getElem?_set_self hl] at h1
      cases h1
    have n2 : k ≠ i := fun e => by
      subst e
      have hl : k < G.length := by
        have := (List.getElem?_eq_some_iff.mp h2).1
        simpa using this
      rw [List.getElem?_set_self hl] at h2
      cases h2
    rw [List.getElem?_set_ne (Ne.symm n1)] at h1 e1
    rw [List.getElem?_set_ne (Ne.symm n2)] at h2 e2
    exact S.ap j k R1 R2 p ne h1 h2 e1 e2
  pt := fun j h => by
    by_cases e : j = i
    · subst e
      have hl : j < G.length := by
        have := (List.getElem?_eq_some_iff.mp h).1
        simpa using this
      rw [List.getElem?_set_self hl] at h
      cases h
    · rw [List.getElem?_set_ne (Ne.symm e)] at h ⊢
      exact S.pt j h
theorem Sat.set_mt (S : Sat E G σ F H) {i : Nat} {R : List V → Hp → Prop} {p : Addr} {vs : List V} (hF : F p = none) (hE : E.H p = none) (hH : H p = some (.lst vs)) (u : Up R vs F)
    (ha : ∀ (j : Nat) (S : List V → Hp → Prop), j ≠ i → G[j]? = some (Sl.mt S) → σ[j]? = some (some (.ref p)) → False) : Sat E (G.set i (.mt R)) (σ.set i (some (.ref p))) F H where
  len := by rw [List.length_set, List.length_set]; exact S.len
  bs := S.bs
  p0 := S.p0
  fz := fun j R' h => by
    by_cases e : j = i
    · subst e
      have hl : j < G.length := by
        have := (List.getElem?_eq_some_iff.mp h).1
        simpa using this
      rw [List.getElem?_set_self hl] at h
      cases h
    · rw [List.getElem?_set_ne (Ne.symm e)] at h ⊢
      exact S.fz j R' h
  mt := fun j R' h => by
    by_cases e : j = i
    · subst e
      have hl : j < G.length := by
        have := (List.getElem?_eq_some_iff.mp h).1
        simpa using this
      rw [List.getElem?_set_self hl] at h
      cases h
      exact ⟨p, vs, List.getElem?_set_self (by rw [S.len]; exact hl), hF, hE, hH, u⟩
    · rw [List.getElem?_set_ne (Ne.symm e)] at h ⊢
      exact S.mt j R' h
  ap := fun j k R1 R2 q ne h1 h2 e1 e2 => by
    have one : ∀ (j k : Nat) (R2 : List V → Hp → Prop), j ≠ k → (G.set i (.mt R))[k]? = some (.mt R2) → (σ.set i (some (.ref p)))[j]? = some (some (.ref q)) → (σ.set i (some (.ref p)))[k]? = some (some (.ref q)) → j = i → False := fun j k R2 ne h2 e1 e2 e => by
      subst e
      have hl : j < σ.length := by
        have := (List.getElem?_eq_some_iff.mp e1).1
        simpa using this
      rw [List.getElem?_set_self hl] at e1
      cases e1
      rw [List.getElem?_set_ne ne] at h2 e2
      exact ha k R2 (Ne.symm ne) h2 e2
    by_cases n1 : j = i
    · exact one j k R2 ne h2 e1 e2 n1
    · by_cases n2 : k = i
      · exact one k j R1 (Ne.symm ne) h1 e2 e1 n2
      · rw [List.getElem?_set_ne (Ne.symm n1)] at h1 e1
        rw [List.getElem?_set_ne (Ne.symm n2)] at h2 e2
        exact S.ap j k R1 R2 q ne h1 h2 e1 e2
  pt := fun j h => by
    by_cases e : j = i
    · subst e
      have hl : j < G.length := by
        have := (List.getElem?_eq_some_iff.mp h).1
        simpa using this
      rw [List.getElem?_set_self hl] at h
      cases h
    · rw [List.getElem?_set_ne (Ne.symm e)] at h ⊢
      exact S.pt j h
/-- the list at a slot turns -/
theorem Sat.turn (S : Sat E G σ F H) {i : Nat} {R R' : List V → Hp → Prop} {p : Addr} {vs : List V} (hG : G[i]? = some (.mt R)) (hs : σ[i]? = some (some (.ref p))) (u : Up R' vs F) :
    Sat E (G.set i (.mt R')) σ F (upd H p (.lst vs)) := by
  obtain ⟨p', vs0, e, h1, h2, h3, h4⟩ := S.mt i R hG
  rw [hs] at e
  cases e
  have hb : Bs E F (upd H p (.lst vs)) := {
    f := S.bs.f
    s := fun a o q => by
      have ne : a ≠ p := fun z => by rw [z, h1] at q; cases q
      rw [upd_ne ne]
      exact S.bs.s a o q
    k := fun a o q hp => by
      have ne : a ≠ p := fun z => by rw [z, h2] at q; cases q
      rw [upd_ne ne]
      exact S.bs.k a o q hp
    n := S.bs.n
    p := fun a ha => by
      obtain ⟨q1, x, y, q2, q3⟩ := S.bs.p a ha
      have ne : a ≠ p := fun z => S.npot h2 (by rw [← z]; exact ha)
      exact ⟨q1, x, y, by rw [upd_ne ne]; exact q2, q3⟩ }
  have hl : i < G.length := (List.getElem?_eq_some_iff.mp hG).1
  refine ⟨by rw [List.length_set]; exact S.len, hb, S.p0, fun j R1 h => ?_, fun j R1 h => ?_, fun j k R1 R2 q ne g1 g2 e1 e2 => ?_, fun j h => ?_⟩
  · by_cases e : j = i
    · subst e
      rw [List.getElem?_set_self hl] at h
      cases h
    · rw [List.getElem?_set_ne (Ne.symm e)] at h
      exact S.fz j R1 h
  · by_cases e : j = i
    · subst e
      rw [List.getElem?_set_self hl] at h
      cases h
      exact ⟨p, vs, hs, h1, h2, upd_same, u⟩
    · rw [List.getElem?_set_ne (Ne.symm e)] at h
      obtain ⟨q, ws, g1, g2, g3, g4, g5⟩ := S.mt j R1 h
      have ne : q ≠ p := fun z => by
        subst z
        exact S.ap j i R1 R q e h hG g1 hs
      exact ⟨q, ws, g1, g2, g3, by rw [upd_ne ne]; exact g4, g5⟩
  · have get : ∀ (j : Nat) (R1 : List V → Hp → Prop), (G.set i (.mt R'))[j]? = some (.mt R1) → ∃ S1, G[j]? = some (.mt S1) := fun j R1 g => by
      by_cases e : j = i
      · subst e
        exact ⟨R, hG⟩
      · rw [List.getElem?_set_ne (Ne.symm e)] at g
        exact ⟨R1, g⟩
    obtain ⟨S1, g1'⟩ := get j R1 g1
    obtain ⟨S2, g2'⟩ := get k R2 g2
    exact S.ap j k S1 S2 q ne g1' g2' e1 e2
  · by_cases e : j = i
    · subst e
      rw [List.getElem?_set_self hl] at h
      cases h
    · rw [List.getElem?_set_ne (Ne.symm e)] at h
      exact S.pt j h
/-- a list as a value: at an address of the frozen part -/
def LstOf (R : List V → Hp → Prop) (v : V) (F : Hp) : Prop := ∃ a vs, v = .ref a ∧ F a = some (.lst vs) ∧ Up R vs F
def TupOf (R : List V → Hp → Prop) (v : V) (F : Hp) : Prop := ∃ a vs, v = .ref a ∧ F a = some (.tup vs) ∧ Up R vs F
/-- the list at a slot freezes -/
theorem Sat.freeze (S : Sat E G σ F H) {i : Nat} {R : List V → Hp → Prop} (hG : G[i]? = some (.mt R)) :
    ∃ p vs, σ[i]? = some (some (.ref p)) ∧ F p = none ∧ E.H p = none ∧ H p = some (.lst vs) ∧ Up R vs F ∧ Sat E (G.set i (.fz (LstOf R))) σ (upd F p (.lst vs)) H := by
  obtain ⟨p, vs, e, h1, h2, h3, h4⟩ := S.mt i R hG
  have hx : Ex F (upd F p (.lst vs)) := Ex.new h1
  have hl : i < G.length := (List.getElem?_eq_some_iff.mp hG).1
  have hb : Bs E (upd F p (.lst vs)) H := {
    f := S.bs.f.trans hx
    s := fun a o q => by
      by_cases ne : a = p
      · subst ne
        rw [upd_same] at q
        cases q
        exact h3
      · rw [upd_ne ne] at q
        exact S.bs.s a o q
    k := S.bs.k
    n := fun a o q => by
      by_cases ne : a = p
      · rw [ne]
        exact .inr h2
      · rw [upd_ne ne] at q
        exact S.bs.n a o q
    p := fun a ha => by
      obtain ⟨q1, q2⟩ := S.bs.p a ha
      have ne : a ≠ p := fun z => S.npot h2 (by rw [← z]; exact ha)
      exact ⟨by rw [upd_ne ne]; exact q1, q2⟩ }
  refine ⟨p, vs, e, h1, h2, h3, h4, ⟨by rw [List.length_set]; exact S.len, hb, S.p0, fun j R1 h => ?_, fun j R1 h => ?_, fun j k R1 R2 q ne g1 g2 e1 e2 => ?_, fun j h => ?_⟩⟩
  · by_cases q : j = i
    · subst q
      rw [List.getElem?_set_self hl] at h
      cases h
      exact ⟨.ref p, e, fun F2 e2 => ⟨p, vs, rfl, e2 _ _ upd_same, (h4.mono hx).mono e2⟩⟩
    · rw [List.getElem?_set_ne (Ne.symm q)] at h
      obtain ⟨v, g1, g2⟩ := S.fz j R1 h
      exact ⟨v, g1, g2.mono hx⟩
  · by_cases q : j = i
    · subst q
      rw [List.getElem?_set_self hl] at h
      cases h
    · rw [List.getElem?_set_ne (Ne.symm q)] at h
      obtain ⟨q', ws, g1, g2, g3, g4, g5⟩ := S.mt j R1 h
      have ne : q' ≠ p := fun z => by
        subst z
        exact S.ap j i R1 R q' q h hG g1 e
      exact ⟨q', ws, g1, by rw [upd_ne ne]; exact g2, g3, g4, g5.mono hx⟩
  · have get : ∀ (j : Nat) (R1 : List V → Hp → Prop), (G.set i (.fz (LstOf R)))[j]? = some (.mt R1) → G[j]? = some (.mt R1) := fun j R1 g => by
      by_cases q : j = i
      · subst q
        rw [List.getElem?_set_self hl] at g
        cases g
      · rw [List.getElem?_set_ne (Ne.symm q)] at g
        exact g
    exact S.ap j k R1 R2 q ne (get j R1 g1) (get k R2 g2) e1 e2
  · by_cases q : j = i
    · subst q
      rw [List.getElem?_set_self hl] at h
      cases h
    · rw [List.getElem?_set_ne (Ne.symm q)] at h
      exact S.pt j h
/-- less is known -/
inductive Le : Sl → Sl → Prop where
  | un {s : Sl} : Le s .un
  | fz {R R' : V → Hp → Prop} (h : ∀ v F, R v F → R' v F) : Le (.fz R) (.fz R')
  | mt {R R' : List V → Hp → Prop} (h : ∀ v F, R v F → R' v F) : Le (.mt R) (.mt R')
  | pot : Le .pot .pot
theorem Le.rfl' : ∀ s : Sl, Le s s
  | .un => .un
  | .fz _ => .fz fun _ _ h => h
  | .mt _ => .mt fun _ _ h => h
  | .pot => .pot
theorem Sat.weak {G' : List Sl} (S : Sat E G σ F H) (hl : G'.length = G.length) (h : ∀ (i : Nat) (s' : Sl), G'[i]? = some s' → ∃ s, G[i]? = some s ∧ Le s s') : Sat E G' σ F H where
  len := by rw [hl]; exact S.len
  bs := S.bs
  p0 := S.p0
  fz := fun i R e => by
    obtain ⟨s, e1, l⟩ := h i _ e
    cases l with
    | fz k =>
      obtain ⟨v, g1, g2⟩ := S.fz i _ e1
      exact ⟨v, g1, g2.imp fun F q => k v F q⟩
  mt := fun i R e => by
    obtain ⟨s, e1, l⟩ := h i _ e
    cases l with
    | mt k =>
      obtain ⟨p, vs, g1, g2, g3, g4, g5⟩ := S.mt i _ e1
      exact ⟨p, vs, g1, g2, g3, g4, g5.imp fun F q => k vs F q⟩
  ap := fun i j R1 R2 p ne e1 e2 => by
    obtain ⟨s, q1, l1⟩ := h i _ e1
    obtain ⟨t, q2, l2⟩ := h j _ e2
    cases l1 with
    | mt k1 => cases l2 with
      | mt k2 => exact S.ap i j _ _ p ne q1 q2
  pt := fun i e => by
    obtain ⟨s, e1, l⟩ := h i _ e
    cases l with
    | pot => exact S.pt i e1
/-- less is known, slot by slot -/
theorem Sat.weakL {G' : List Sl} (S : Sat E G σ F H) (h : Paired Le G G') : Sat E G' σ F H := by
  have all : ∀ {A B : List Sl}, Paired Le A B → B.length = A.length ∧ ∀ (i : Nat) (s' : Sl), B[i]? = some s' → ∃ s, A[i]? = some s ∧ Le s s' := by
    intro A B h
    induction h with
    | nil => exact ⟨rfl, fun i s' e => by simp at e⟩
    | cons r t ih =>
      refine ⟨by simp [ih.1], fun i s' e => ?_⟩
      cases i with
      | zero =>
        simp at e
        subst e
        exact ⟨_, rfl, r⟩
      | succ i =>
        simp at e
        obtain ⟨s, e1, l⟩ := ih.2 i s' e
        exact ⟨s, by simpa using e1, l⟩
  exact S.weak (all h).1 (all h).2
/-- a slot forgotten -/
theorem Sat.drop (S : Sat E G σ F H) (i : Nat) (x : Option V) : Sat E (G.set i .un) (σ.set i x) F H where
  len := by rw [List.length_set, List.length_set]; exact S.len
  bs := S.bs
  p0 := S.p0
  fz := fun j R' h => by
    by_cases e : j = i
    · subst e
      have hl : j < G.length := by
        have := (List.getElem?_eq_some_iff.mp h).1
        simpa using this
      rw [List.getElem?_set_self hl] at h
      cases h
    · rw [List.getElem?_set_ne (Ne.symm e)] at h ⊢
      exact S.fz j R' h
  mt := fun j R' h => by
    by_cases e : j = i
    · subst e
      have hl : j < G.length := by
        have := (List.getElem?_eq_some_iff.mp h).1
        simpa using this
      rw [List.getElem?_set_self hl] at h
      cases h
    · rw [List.getElem?_set_ne (Ne.symm e)] at h ⊢
      exact S.mt j R' h
  ap := fun j k R1 R2 p ne h1 h2 e1 e2 => by
    have n1 : j ≠ i := fun e => by
      subst e
      have hl : j < G.length := by
        have := (List.getElem?_eq_some_iff.mp h1).1
        simpa using this
      rw [List.getElem?_set_self hl] at h1
      cases h1
    have n2 : k ≠ i := fun e => by
      subst e
      have hl : k < G.length := by
        have := (List.getElem?_eq_some_iff.mp h2).1
        simpa using this
      rw [List.getElem?_set_self hl] at h2
      cases h2
    rw [List.getElem?_set_ne (Ne.symm n1)] at h1 e1
    rw [List.getElem?_set_ne (Ne.symm n2)] at h2 e2
    exact S.ap j k R1 R2 p ne h1 h2 e1 e2
  pt := fun j h => by
    by_cases e : j = i
    · subst e
      have hl : j < G.length := by
        have := (List.getElem?_eq_some_iff.mp h).1
        simpa using this
      rw [List.getElem?_set_self hl] at h
      cases h
    · rw [List.getElem?_set_ne (Ne.symm e)] at h ⊢
      exact S.pt j h
def wipeG (G : List Sl) : List Nat → List Sl
  | [] => G
  | v :: vs => (wipeG G vs).set v .un
theorem Sat.wipe (S : Sat E G σ F H) : ∀ vs : List Nat, Sat E (wipeG G vs) (L2.wipe σ vs) F H
  | [] => S
  | v :: vs => (Sat.wipe S vs).drop v none
theorem wipe_set {σ : L2.St} {i : Nat} {x : Option V} : ∀ {vs : List Nat}, i ∈ vs → L2.wipe (σ.set i x) vs = L2.wipe σ vs
  | [], h => absurd h (by simp)
  | v :: vs, h => by
    unfold L2.wipe
    by_cases q : i ∈ vs
    · rw [wipe_set q]
    · have e : i = v := by
        rcases List.mem_cons.mp h with z | z
        · exact z
        · exact absurd z q
      subst e
      have all : ∀ {vs : List Nat}, i ∉ vs → L2.wipe (σ.set i x) vs = (L2.wipe σ vs).set i x := by
        intro vs
        induction vs with
        | nil => intro _; rfl
        | cons w ws ih =>
          intro hn
          have h1 : i ≠ w := fun z => hn (by simp [z])
          have h2 : i ∉ ws := fun z => hn (by simp [z])
          unfold L2.wipe
          rw [ih h2, List.set_comm _ _ h1]
      rw [all q, List.set_set]
theorem wipe_idem {σ : L2.St} : ∀ {vs ws : List Nat}, (∀ v ∈ vs, v ∈ ws) → L2.wipe (L2.wipe σ vs) ws = L2.wipe σ ws
  | [], _, _ => rfl
  | v :: vs, ws, h => by
    show L2.wipe ((L2.wipe σ vs).set v none) ws = _
    rw [wipe_set (h v (by simp)), wipe_idem fun u hu => h u (by simp [hu])]
end
end Gw
set_option maxHeartbeats 4000000
namespace Gw
open PySem PySem.Spec PyProof.Rows L2

/-! ### readings -/
def tE (E : En) (G : List Sl) (R : V → Hp → Prop) : TE := fun σ H Q => ∃ F, Sat E G σ F H ∧ ∀ v F' H', Gr E.pp F H F' H' → Up R v F' → Q v H'
def tT (E : En) (G : List Sl) (b : Bool) : TT := fun σ H Q => ∃ F, Sat E G σ F H ∧ ∀ F' H', Gr E.pp F H F' H' → Q b H'
def Args (Rs : List (V → Hp → Prop)) (vs : List V) (F : Hp) : Prop := Paired (fun R v => Up R v F) Rs vs
def tA (E : En) (G : List Sl) (Rs : List (V → Hp → Prop)) : TA := fun σ H Q => ∃ F, Sat E G σ F H ∧ ∀ vs F' H', Gr E.pp F H F' H' → Args Rs vs F' → Q vs H'
/-- a new list, not frozen -/
def tM (E : En) (G : List Sl) (R : List V → Hp → Prop) : TE := fun σ H Q => ∃ F, Sat E G σ F H ∧ ∀ p vs F' H', Gr E.pp F H F' H' → H p = none → F' p = none → H' p = some (.lst vs) → Up R vs F' → Q (.ref p) H'
def tS (E : En) (G : List Sl) (Rt : V → Hp → Hp → Prop) (N : List Sl → Prop) : TS := fun D σ H => ∃ F, Sat E G σ F H ∧ (∀ G' σ' F' H', N G' → Sat E G' σ' F' H' → Ex F F' → D.nx σ' H') ∧ (∀ v F' H', Bs E F' H' → Rt v F' H' → D.rt v H')
def tO (E : En) (G : List Sl) (o : Option Int) : TO := fun σ H Q => ∃ F, Sat E G σ F H ∧ ∀ F' H', Gr E.pp F H F' H' → Q o H'
theorem Args.mono {Rs : List (V → Hp → Prop)} {vs : List V} {F F' : Hp} (a : Args Rs vs F) (e : Ex F F') : Args Rs vs F' := Paired.mapP a fun _ _ u => u.mono e
theorem Args.up {Rs : List (V → Hp → Prop)} {vs : List V} {F : Hp} (a : Args Rs vs F) : Up (Args Rs) vs F := fun _ e => a.mono e
theorem Args.len {Rs : List (V → Hp → Prop)} {vs : List V} {F : Hp} (a : Args Rs vs F) : Rs.length = vs.length := Paired.length a
theorem Args.get {Rs : List (V → Hp → Prop)} {vs : List V} {F : Hp} (a : Args Rs vs F) : ∀ {i : Nat} {R : V → Hp → Prop}, Rs[i]? = some R → ∃ v, vs[i]? = some v ∧ Up R v F := by
  have h : ∀ {Rs : List (V → Hp → Prop)} {vs : List V}, Paired (fun R v => Up R v F) Rs vs → ∀ {i : Nat} {R : V → Hp → Prop}, Rs[i]? = some R → ∃ v, vs[i]? = some v ∧ Up R v F := by
    intro Rs vs p
    induction p with
    | nil => intro i R e; simp at e
    | cons r t ih =>
      intro i R e
      cases i with
      | zero =>
        simp at e
        subst e
        exact ⟨_, rfl, r⟩
      | succ i =>
        simp at e
        obtain ⟨v, e1, u⟩ := ih e
        exact ⟨v, by simpa using e1, u⟩
  exact @h _ _ a

section
variable {X : Cx} {e : Expr} {st : Stmt}
theorem PE_imp {t t' : TE} (h : PE X e t) (i : ∀ σ H Q, t' σ H Q → t σ H Q) : PE X e t' := ⟨fun pins s σ H Q I hw => h.run pins s σ H Q I (i _ _ _ hw)⟩
theorem PT_imp {t t' : TT} (h : PT X e t) (i : ∀ σ H Q, t' σ H Q → t σ H Q) : PT X e t' := ⟨fun pins s σ H Q I hw => h.run pins s σ H Q I (i _ _ _ hw)⟩
theorem PW_imp {t t' : TT} (h : PW X e t) (i : ∀ σ H Q, t' σ H Q → t σ H Q) : PW X e t' := ⟨fun wh pins s σ H Q I hw => h.run wh pins s σ H Q I (i _ _ _ hw)⟩
theorem PA_imp {es : List Expr} {t t' : TA} (h : PA X es t) (i : ∀ σ H Q, t' σ H Q → t σ H Q) : PA X es t' := ⟨fun pos pins s σ H Q I hw => h.run pos pins s σ H Q I (i _ _ _ hw)⟩
theorem PK_imp {es : List Keyword} {t t' : TA} (h : PK X es t) (i : ∀ σ H Q, t' σ H Q → t σ H Q) : PK X es t' := ⟨fun pos pins s σ H Q I hw => h.run pos pins s σ H Q I (i _ _ _ hw)⟩
theorem PS_imp {t t' : TS} (h : PS X st t) (i : ∀ D σ H, t' D σ H → t D σ H) : PS X st t' := ⟨fun pins s σ H D I hw => h.run pins s σ H D I (i _ _ _ hw)⟩
theorem PSs_imp {st : List Stmt} {t t' : TS} (h : PSs X st t) (i : ∀ D σ H, t' D σ H → t D σ H) : PSs X st t' := ⟨fun pins s σ H D I hw => h.run pins s σ H D I (i _ _ _ hw)⟩
theorem PI_imp {tg : Expr} {t t' : TI} (h : PI X tg e t) (i : ∀ σ H R, t' σ H R → t σ H R) : PI X tg e t' := ⟨fun pins s σ H R I hw => h.run pins s σ H R I (i _ _ _ hw)⟩
theorem PG_imp {t t' : TG} (h : PG X e t) (i : ∀ v σ H Q, t' v σ H Q → t v σ H Q) : PG X e t' := ⟨fun pins s σ H v u Q I r hw => h.run pins s σ H v u Q I r (i _ _ _ _ hw)⟩
theorem PO_imp {o : Option Expr} {t t' : TO} (h : PO X o t) (i : ∀ σ H Q, t' σ H Q → t σ H Q) : PO X o t' := ⟨fun pins s σ H Q I hw => h.run pins s σ H Q I (i _ _ _ hw)⟩
/-- for every kind of ending that can be: a family of readings -/
theorem PSs_any {ι : Type} {st : List Stmt} {t : ι → TS} (h : ∀ i, PSs X st (t i)) : PSs X st (fun D σ H => ∃ i, t i D σ H) := ⟨fun pins s σ H D I ⟨i, hw⟩ => (h i).run pins s σ H D I hw⟩
theorem PE_any {ι : Type} {t : ι → TE} (h : ∀ i, PE X e (t i)) : PE X e (fun σ H Q => ∃ i, t i σ H Q) := ⟨fun pins s σ H Q I ⟨i, hw⟩ => (h i).run pins s σ H Q I hw⟩
theorem PT_any {ι : Type} {t : ι → TT} (h : ∀ i, PT X e (t i)) : PT X e (fun σ H Q => ∃ i, t i σ H Q) := ⟨fun pins s σ H Q I ⟨i, hw⟩ => (h i).run pins s σ H Q I hw⟩
theorem PTs_any {ι : Type} {es : List Expr} {t : ι → TT} (h : ∀ i, PTs X es (t i)) : PTs X es (fun σ H Q => ∃ i, t i σ H Q) := ⟨fun pins s σ H Q I ⟨i, hw⟩ => (h i).run pins s σ H Q I hw⟩
end

section
variable {X : Cx} {E : En} {G : List Sl} {e a b c : Expr} {R R' Ra Rb Rz : V → Hp → Prop} {pos : Pos}
theorem je_conv (p : PE X e (tE E G R)) (h : ∀ v F, R v F → R' v F) : PE X e (tE E G R') := PE_imp p fun σ H Q ⟨F, S, k⟩ => ⟨F, S, fun v F' H' g u => k v F' H' g (u.imp fun F q => h v F q)⟩
theorem je_var {i : Nat} (p : PE X e (tVar i)) (h : G[i]? = some (.fz R)) : PE X e (tE E G R) := PE_imp p fun σ H Q ⟨F, S, k⟩ => by
  obtain ⟨v, q, u⟩ := S.fz i R h
  exact ⟨v, q, k v F H S.refl u⟩
theorem je_c {v : V} (p : PE X e (tC v)) (h : ∀ F, R v F) : PE X e (tE E G R) := PE_imp p fun σ H Q ⟨F, S, k⟩ => k v F H S.refl fun F' _ => h F'
/-- two-place operations on values -/
def ROp (pp : Option Addr) (r : R2) (Ra Rb Rz : V → Hp → Prop) : Prop := ∀ x y F H (Q : VK), Ok pp F H → Up Ra x F → Up Rb y F → (∀ z F' H', Gr pp F H F' H' → Up Rz z F' → Q z H') → r x y H Q
theorem je_op {r : R2} (p : PE X e (tOp r (tE E G Ra) (tE E G Rb))) (h : ROp E.pp r Ra Rb Rz) : PE X e (tE E G Rz) := PE_imp p fun σ H Q ⟨F, S, k⟩ =>
  ⟨F, S, fun x F1 H1 g1 u1 => ⟨F1, S.gr g1, fun y F2 H2 g2 u2 => h x y F2 H2 Q g2.ok (u1.mono g2.f) u2 fun z F3 H3 g3 u3 => k z F3 H3 ((g1.trans g2).trans g3) u3⟩⟩
def RUn (pp : Option Addr) (r : V → Hp → VK → Prop) (Ra Rz : V → Hp → Prop) : Prop := ∀ x F H (Q : VK), Ok pp F H → Up Ra x F → (∀ z F' H', Gr pp F H F' H' → Up Rz z F' → Q z H') → r x H Q
theorem je_un {r : V → Hp → VK → Prop} (p : PE X e (fun σ H Q => tE E G Ra σ H fun x H1 => r x H1 Q)) (h : RUn E.pp r Ra Rz) : PE X e (tE E G Rz) := PE_imp p fun σ H Q ⟨F, S, k⟩ =>
  ⟨F, S, fun x F1 H1 g1 u1 => h x F1 H1 Q g1.ok u1 fun z F3 H3 g3 u3 => k z F3 H3 (g1.trans g3) u3⟩
/-- calls -/
def RC (pp : Option Addr) (r : List V → Hp → VK → Prop) (Rs : List (V → Hp → Prop)) (Rz : V → Hp → Prop) : Prop := ∀ vs F H (Q : VK), Ok pp F H → Args Rs vs F → (∀ z F' H', Gr pp F H F' H' → Up Rz z F' → Q z H') → r vs H Q
def RCM (pp : Option Addr) (r : List V → Hp → VK → Prop) (Rs : List (V → Hp → Prop)) (Rz : List V → Hp → Prop) : Prop := ∀ vs F H (Q : VK), Ok pp F H → Args Rs vs F → (∀ p ws F' H', Gr pp F H F' H' → H p = none → F' p = none → H' p = some (.lst ws) → Up Rz ws F' → Q (.ref p) H') → r vs H Q
theorem je_cb {r : List V → Hp → VK → Prop} {Rs : List (V → Hp → Prop)} (p : PE X e (tCB r (tA E G Rs))) (h : RC E.pp r Rs Rz) : PE X e (tE E G Rz) := PE_imp p fun σ H Q ⟨F, S, k⟩ =>
  ⟨F, S, fun vs F1 H1 g1 a => h vs F1 H1 Q g1.ok a fun z F3 H3 g3 u3 => k z F3 H3 (g1.trans g3) u3⟩
theorem jm_cb {r : List V → Hp → VK → Prop} {Rs : List (V → Hp → Prop)} {Rm : List V → Hp → Prop} (p : PE X e (tCB r (tA E G Rs))) (h : RCM E.pp r Rs Rm) : PE X e (tM E G Rm) := PE_imp p fun σ H Q ⟨F, S, k⟩ =>
  ⟨F, S, fun vs F1 H1 g1 a => h vs F1 H1 Q g1.ok a fun q ws F3 H3 g3 n1 n2 n3 u3 => k q ws F3 H3 (g1.trans g3) (g1.back n1) n2 n3 u3⟩
theorem ja_nil : PA X [] (tA E G []) := PA_imp pa_nil fun σ H Q ⟨F, S, k⟩ => k [] F H S.refl .nil
theorem ja_cons {es : List Expr} {Rs : List (V → Hp → Prop)} (h : PE X e (tE E G R)) (hr : PA X es (tA E G Rs)) (hs : starEach (e :: es) X.env = (false, eval e X.env) :: starEach es X.env := by rfl) : PA X (e :: es) (tA E G (R :: Rs)) :=
  PA_imp (pa_cons h hr hs) fun σ H Q ⟨F, S, k⟩ => ⟨F, S, fun x F1 H1 g1 u1 => ⟨F1, S.gr g1, fun vs F2 H2 g2 a => k (x :: vs) F2 H2 (g1.trans g2) (.cons (u1.mono g2.f) a)⟩⟩
theorem jk_nil : PK X [] (tA E G []) := PK_imp pk_nil fun σ H Q ⟨F, S, k⟩ => k [] F H S.refl .nil
theorem jk_cons {nm : Option Str} {kpos : Pos} {es : List Keyword} {Rs : List (V → Hp → Prop)} (h : PE X e (tE E G R)) (hr : PK X es (tA E G Rs)) : PK X (⟨nm, e, kpos⟩ :: es) (tA E G (R :: Rs)) :=
  PK_imp (pk_cons h hr) fun σ H Q ⟨F, S, k⟩ => ⟨F, S, fun x F1 H1 g1 u1 => ⟨F1, S.gr g1, fun vs F2 H2 g2 a => k (x :: vs) F2 H2 (g1.trans g2) (.cons (u1.mono g2.f) a)⟩⟩
theorem Args.app {Rs Ss : List (V → Hp → Prop)} {vs ws : List V} {F : Hp} (a : Args Rs vs F) (b : Args Ss ws F) : Args (Rs ++ Ss) (vs ++ ws) F := by
  have h : ∀ {Rs : List (V → Hp → Prop)} {vs : List V}, Paired (fun R v => Up R v F) Rs vs → Paired (fun R v => Up R v F) (Rs ++ Ss) (vs ++ ws) := by
    intro Rs vs p
    induction p with
    | nil => exact b
    | cons r t ih => exact .cons r ih
  exact @h _ _ a
/-- a call with keywords: the parameters in their order -/
theorem je_ck {sp : Sp} {gV : List V → List V → List V} {E' : XK} {Rs Ss Ts : List (V → Hp → Prop)} (p : PE X e (tCallK sp gV E' (tA E G Rs) (tA E G Ss)))
    (hg : ∀ vs ws F, Args Rs vs F → Args Ss ws F → Args Ts (gV vs ws) F) (h : RC E.pp (fun vs H Q => sp vs H Q E') Ts Rz) : PE X e (tE E G Rz) := PE_imp p fun σ H Q ⟨F, S, k⟩ =>
  ⟨F, S, fun vs F1 H1 g1 a1 => ⟨F1, S.gr g1, fun ws F2 H2 g2 a2 => h _ F2 H2 Q g2.ok (hg vs ws F2 (a1.mono g2.f) a2) fun z F3 H3 g3 u3 => k z F3 H3 ((g1.trans g2).trans g3) u3⟩⟩

/-! ### new lists -/
theorem Gr_frz {pp : Option Addr} {F H F' H' : Hp} {p : Addr} {o : HO} (k : Ok pp F H) (g : Gr pp F H F' H') (n1 : H p = none) (n2 : F' p = none) (n3 : H' p = some o) : Gr pp F H (upd F' p o) H' where
  f := g.f.trans (Ex.new n2)
  s := fun a u e => by
    by_cases q : a = p
    · subst q
      rw [upd_same] at e
      cases e
      exact n3
    · rw [upd_ne q] at e
      exact g.s a u e
  k := g.k
  n := fun a u e => by
    by_cases q : a = p
    · rw [q]
      exact .inr n1
    · rw [upd_ne q] at e
      exact g.n a u e
  p := fun a ha => by
    obtain ⟨q1, q2⟩ := g.p a ha
    obtain ⟨_, x, y, h2, _⟩ := k.p a ha
    have q : a ≠ p := ne_of_none h2 n1
    exact ⟨by rw [upd_ne q]; exact q1, q2⟩
/-- a new list frozen at once -/
theorem je_m {Rm : List V → Hp → Prop} (p : PE X e (tM E G Rm)) : PE X e (tE E G (LstOf Rm)) := PE_imp p fun σ H Q ⟨F, S, k⟩ =>
  ⟨F, S, fun p vs F' H' g n1 n2 n3 u => k (.ref p) (upd F' p (.lst vs)) H' (Gr_frz S.ok g n1 n2 n3) fun F2 e2 => ⟨p, vs, rfl, e2 _ _ upd_same, (u.mono (Ex.new n2)).mono e2⟩⟩
theorem jm_conv {Rm Rn : List V → Hp → Prop} (p : PE X e (tM E G Rm)) (h : ∀ v F, Rm v F → Rn v F) : PE X e (tM E G Rn) := PE_imp p fun σ H Q ⟨F, S, k⟩ =>
  ⟨F, S, fun p vs F' H' g n1 n2 n3 u => k p vs F' H' g n1 n2 n3 (u.imp fun F q => h vs F q)⟩
theorem jm_lst {Rs : List (V → Hp → Prop)} (p : PE X e (tLst (tA E G Rs))) (hl : Rs.length ≤ sizeLine := by first | decide | (simp only [List.length_cons, List.length_nil]; decide)) : PE X e (tM E G (Args Rs)) := PE_imp p fun σ H Q ⟨F, S, k⟩ =>
  ⟨F, S, fun vs F1 H1 g1 a => ⟨by rw [← a.len]; exact hl, fun p hp => k p vs F1 (upd H1 p (.lst vs)) (g1.trans (Gr.raw g1.ok hp)) (g1.back hp) (g1.s.back hp) upd_same a.up⟩⟩
theorem je_tup {Rs : List (V → Hp → Prop)} (p : PE X e (tTup (tA E G Rs))) (hl : Rs.length ≤ sizeLine := by first | decide | (simp only [List.length_cons, List.length_nil]; decide)) : PE X e (tE E G (TupOf (Args Rs))) := PE_imp p fun σ H Q ⟨F, S, k⟩ =>
  ⟨F, S, fun vs F1 H1 g1 a => ⟨by rw [← a.len]; exact hl, fun p hp => k (.ref p) (upd F1 p (.tup vs)) (upd H1 p (.tup vs)) (g1.trans (Gr.new g1.ok hp)) fun F2 e2 =>
    ⟨p, vs, rfl, e2 _ _ upd_same, (a.mono (Ex.new (g1.s.back hp))).mono e2 |>.up⟩⟩⟩
/-- an operation that makes a new list -/
def ROpM (pp : Option Addr) (r : R2) (Ra Rb : V → Hp → Prop) (Rz : List V → Hp → Prop) : Prop := ∀ x y F H (Q : VK), Ok pp F H → Up Ra x F → Up Rb y F → (∀ p ws F' H', Gr pp F H F' H' → H p = none → F' p = none → H' p = some (.lst ws) → Up Rz ws F' → Q (.ref p) H') → r x y H Q
theorem jm_op {r : R2} {Rm : List V → Hp → Prop} (p : PE X e (tOp r (tE E G Ra) (tE E G Rb))) (h : ROpM E.pp r Ra Rb Rm) : PE X e (tM E G Rm) := PE_imp p fun σ H Q ⟨F, S, k⟩ =>
  ⟨F, S, fun x F1 H1 g1 u1 => ⟨F1, S.gr g1, fun y F2 H2 g2 u2 => h x y F2 H2 Q g2.ok (u1.mono g2.f) u2 fun q ws F3 H3 g3 n1 n2 n3 u3 => k q ws F3 H3 ((g1.trans g2).trans g3) ((g1.trans g2).back n1) n2 n3 u3⟩⟩

/-! ### tests -/
def IsB (b : Bool) (v : V) (_ : Hp) : Prop := v = .bl b
def IsI (i : Int) (v : V) (_ : Hp) : Prop := v = .int i
def IsN (v : V) (_ : Hp) : Prop := v = .non
def IsS (s : Str) (v : V) (_ : Hp) : Prop := v = .str s
def IsTy (n : String) (v : V) (_ : Hp) : Prop := v = .ty n
variable {b1 b2 : Bool}
theorem jt_val (p : PT X e (tB (tE E G (IsB b1)))) : PT X e (tT E G b1) := PT_imp p fun σ H Q ⟨F, S, k⟩ => ⟨F, S, fun v F' H' g u => ⟨b1, u.here, k F' H' g⟩⟩
theorem jt_cmp {r : R2} (p : PT X e (tTest (tOp r (tE E G Ra) (tE E G Rb)))) (h : ROp E.pp r Ra Rb (IsB b1)) : PT X e (tT E G b1) := PT_imp p fun σ H Q ⟨F, S, k⟩ =>
  ⟨F, S, fun x F1 H1 g1 u1 => ⟨F1, S.gr g1, fun y F2 H2 g2 u2 => h x y F2 H2 _ g2.ok (u1.mono g2.f) u2 fun z F3 H3 g3 u3 => ⟨b1, u3.here, k F3 H3 ((g1.trans g2).trans g3)⟩⟩⟩
theorem jt_eq (p : PT X e (tT E G b1)) (h : b1 = b2) : PT X e (tT E G b2) := by rw [← h]; exact p
theorem je_eq (p : PE X e (tE E G R)) (h : R = R') : PE X e (tE E G R') := by rw [← h]; exact p
theorem jt_not (p : PT X a (tT E G b1)) : PT X (.UnaryOp .Not a pos) (tT E G (!b1)) := PT_imp (pt_not p) fun σ H Q ⟨F, S, k⟩ => ⟨F, S, fun F' H' g => k F' H' g⟩
theorem PW_when {B : Prop} {t : TT} (h : B → PW X e t) : PW X e (fun σ H Q => B ∧ t σ H Q) := ⟨fun wh pins s σ H Q I hw => (h hw.1).run wh pins s σ H Q I hw.2⟩
theorem PE_when {B : Prop} {t : TE} (h : B → PE X e t) : PE X e (fun σ H Q => B ∧ t σ H Q) := ⟨fun pins s σ H Q I hw => (h hw.1).run pins s σ H Q I hw.2⟩
theorem PSs_when {B : Prop} {st : List Stmt} {t : TS} (h : B → PSs X st t) : PSs X st (fun D σ H => B ∧ t D σ H) := ⟨fun pins s σ H D I hw => (h hw.1).run pins s σ H D I hw.2⟩
theorem jw_and1 (p : PT X a (tT E G b1)) : PW X (.BoolOp .And [a] pos) (tT E G b1) := pw_and1 p
theorem jw_or1 (p : PT X a (tT E G b1)) : PW X (.BoolOp .Or [a] pos) (tT E G b1) := pw_or1 p
theorem jw_and {rest : List Expr} (p : PT X a (tT E G b1)) (q : b1 = true → PW X (.BoolOp .And (b :: rest) pos) (tT E G b2)) : PW X (.BoolOp .And (a :: b :: rest) pos) (tT E G (b1 && b2)) :=
  PW_imp (pw_and p (PW_when q)) fun σ H Q ⟨F, S, k⟩ => ⟨F, S, fun F1 H1 g1 => by
    cases b1 with
    | true =>
      show (true = true ∧ tT E G b2 σ H1 Q)
      exact ⟨rfl, F1, S.gr g1, fun F2 H2 g2 => k F2 H2 (g1.trans g2)⟩
    | false =>
      show Q false H1
      exact k F1 H1 g1⟩
theorem jw_or {rest : List Expr} (p : PT X a (tT E G b1)) (q : b1 = false → PW X (.BoolOp .Or (b :: rest) pos) (tT E G b2)) : PW X (.BoolOp .Or (a :: b :: rest) pos) (tT E G (b1 || b2)) :=
  PW_imp (pw_or p (PW_when q)) fun σ H Q ⟨F, S, k⟩ => ⟨F, S, fun F1 H1 g1 => by
    cases b1 with
    | true =>
      show Q true H1
      exact k F1 H1 g1
    | false =>
      show (false = false ∧ tT E G b2 σ H1 Q)
      exact ⟨rfl, F1, S.gr g1, fun F2 H2 g2 => k F2 H2 (g1.trans g2)⟩⟩
theorem je_and {rest : List Expr} (p : PE X a (tE E G (IsB b1))) (q : b1 = true → PE X (.BoolOp .And (b :: rest) pos) (tE E G (IsB b2))) : PE X (.BoolOp .And (a :: b :: rest) pos) (tE E G (IsB (b1 && b2))) :=
  PE_imp (pe_and p (PE_when q)) fun σ H Q ⟨F, S, k⟩ => ⟨F, S, fun v F1 H1 g1 u1 => ⟨b1, u1.here, by
    cases b1 with
    | true =>
      show (true = true ∧ tE E G (IsB b2) σ H1 Q)
      exact ⟨rfl, F1, S.gr g1, fun v F2 H2 g2 u2 => k v F2 H2 (g1.trans g2) u2⟩
    | false =>
      show Q (.bl false) H1
      exact k (.bl false) F1 H1 g1 fun _ _ => rfl⟩⟩
theorem je_or {rest : List Expr} (p : PE X a (tE E G (IsB b1))) (q : b1 = false → PE X (.BoolOp .Or (b :: rest) pos) (tE E G (IsB b2))) : PE X (.BoolOp .Or (a :: b :: rest) pos) (tE E G (IsB (b1 || b2))) :=
  PE_imp (pe_or p (PE_when q)) fun σ H Q ⟨F, S, k⟩ => ⟨F, S, fun v F1 H1 g1 u1 => ⟨b1, u1.here, by
    cases b1 with
    | true =>
      show Q (.bl true) H1
      exact k (.bl true) F1 H1 g1 fun _ _ => rfl
    | false =>
      show (false = false ∧ tE E G (IsB b2) σ H1 Q)
      exact ⟨rfl, F1, S.gr g1, fun v F2 H2 g2 u2 => k v F2 H2 (g1.trans g2) u2⟩⟩⟩
theorem je_not (p : PE X a (tE E G (IsB b1))) : PE X (.UnaryOp .Not a pos) (tE E G (IsB (!b1))) :=
  PE_imp (pe_not p) fun σ H Q ⟨F, S, k⟩ => ⟨F, S, fun v F1 H1 g1 u1 => ⟨b1, u1.here, k _ F1 H1 g1 fun _ _ => rfl⟩⟩
theorem je_if (hc : PT X c (tT E G b1)) (ha : b1 = true → PE X a (tE E G R)) (hb : b1 = false → PE X b (tE E G R)) : PE X (.IfExp c a b pos) (tE E G R) :=
  PE_imp (pe_ifExp hc (PE_when ha) (PE_when hb)) fun σ H Q ⟨F, S, k⟩ => ⟨F, S, fun F1 H1 g1 => by
    cases b1 with
    | true =>
      show (true = true ∧ tE E G R σ H1 Q)
      exact ⟨rfl, F1, S.gr g1, fun v F2 H2 g2 u2 => k v F2 H2 (g1.trans g2) u2⟩
    | false =>
      show (false = false ∧ tE E G R σ H1 Q)
      exact ⟨rfl, F1, S.gr g1, fun v F2 H2 g2 u2 => k v F2 H2 (g1.trans g2) u2⟩⟩
/-- a op b op c on plain values -/
theorem je_chain {r r' : R2} {Rc : V → Hp → Prop} (p : PE X e (tChain r r' (tE E G Ra) (tE E G Rb) (tE E G Rc))) (h1 : ROp E.pp r Ra Rb (IsB b1)) (h2 : ROp E.pp r' Rb Rc (IsB b2)) : PE X e (tE E G (IsB (b1 && b2))) :=
  PE_imp p fun σ H Q ⟨F, S, k⟩ => ⟨F, S, fun x F1 H1 g1 u1 => ⟨F1, S.gr g1, fun y F2 H2 g2 u2 => h1 x y F2 H2 _ g2.ok (u1.mono g2.f) u2 fun z F3 H3 g3 u3 => ⟨b1, u3.here, by
    cases b1 with
    | true =>
      show tE E G Rc σ H3 fun w' H4 => r' y w' H4 Q
      exact ⟨F3, S.gr ((g1.trans g2).trans g3), fun w F4 H4 g4 u4 => h2 y w F4 H4 Q g4.ok ((u2.mono g3.f).mono g4.f) u4 fun z' F5 H5 g5 u5 => k z' F5 H5 ((((g1.trans g2).trans g3).trans g4).trans g5) u5⟩
    | false =>
      show Q (.bl false) H3
      exact k (.bl false) F3 H3 ((g1.trans g2).trans g3) fun _ _ => rfl⟩⟩⟩
theorem jt_chain {r r' : R2} {Rc : V → Hp → Prop} (p : PT X e (tTest (tChain r r' (tE E G Ra) (tE E G Rb) (tE E G Rc)))) (h1 : ROp E.pp r Ra Rb (IsB b1)) (h2 : ROp E.pp r' Rb Rc (IsB b2)) : PT X e (tT E G (b1 && b2)) :=
  PT_imp p fun σ H Q ⟨F, S, k⟩ => ⟨F, S, fun x F1 H1 g1 u1 => ⟨F1, S.gr g1, fun y F2 H2 g2 u2 => h1 x y F2 H2 _ g2.ok (u1.mono g2.f) u2 fun z F3 H3 g3 u3 => ⟨b1, u3.here, by
    cases b1 with
    | true =>
      show tE E G Rc σ H3 _
      exact ⟨F3, S.gr ((g1.trans g2).trans g3), fun w F4 H4 g4 u4 => h2 y w F4 H4 _ g4.ok ((u2.mono g3.f).mono g4.f) u4 fun z' F5 H5 g5 u5 => ⟨b2, u5.here, k F5 H5 ((((g1.trans g2).trans g3).trans g4).trans g5)⟩⟩
    | false =>
      exact ⟨false, rfl, k F3 H3 ((g1.trans g2).trans g3)⟩⟩⟩⟩
/-- reading a list that may still turn, where the answer is plain -/
def Pl (R : V → Hp → Prop) : Prop := ∀ v F F', R v F → R v F'
theorem hide_gr {pp : Option Addr} {F H F' H' : Hp} {p : Addr} {o : HO} (k : Ok pp F H) (hF : F p = none) (hH : H p = some o) (g : Gr pp (upd F p o) H F' H') : Gr pp F H (fun a => if a = p then none else F' a) H' where
  f := fun a u e => by
    have q : a ≠ p := ne_of_none e hF
    show (if a = p then none else F' a) = some u
    rw [if_neg q]
    exact g.f a u (by rw [upd_ne q]; exact e)
  s := fun a u e => by
    have e' : (if a = p then none else F' a) = some u := e
    by_cases q : a = p
    · rw [if_pos q] at e'
      cases e'
    · rw [if_neg q] at e'
      exact g.s a u e'
  k := g.k
  n := fun a u e => by
    have e' : (if a = p then none else F' a) = some u := e
    by_cases q : a = p
    · rw [if_pos q] at e'
      cases e'
    · rw [if_neg q] at e'
      rcases g.n a u e' with z | z
      · rw [upd_ne q] at z
        exact .inl z
      · exact .inr z
  p := fun a ha => by
    obtain ⟨q1, q2⟩ := g.p a ha
    refine ⟨?_, q2⟩
    show (if a = p then none else F' a) = none
    by_cases q : a = p
    · rw [if_pos q]
    · rw [if_neg q]
      exact q1
theorem je_view {i : Nat} {Rm : List V → Hp → Prop} (hG : G[i]? = some (.mt Rm)) (hR : Pl R) (p : PE X e (tE E (G.set i (.fz (LstOf Rm))) R)) : PE X e (tE E G R) := PE_imp p fun σ H Q ⟨F, S, k⟩ => by
  obtain ⟨p, vs, e, h1, h2, h3, h4, S'⟩ := S.freeze hG
  exact ⟨_, S', fun v F2 H2 g u => k v _ H2 (hide_gr S.ok h1 h3 g) fun F3 _ => hR v F2 F3 u.here⟩
end
end Gw
set_option maxHeartbeats 4000000
namespace Gw
open PySem PySem.Spec PyProof.Rows L2

/-! ### values by kinds -/
def LsOf {α : Type} (R : α → V → Hp → Prop) (xs : List α) (vs : List V) (F : Hp) : Prop := Paired (fun x v => Up (R x) v F) xs vs
abbrev IsL {α : Type} (R : α → V → Hp → Prop) (xs : List α) : V → Hp → Prop := LstOf (LsOf R xs)
abbrev IsTs {α : Type} (R : α → V → Hp → Prop) (xs : List α) : V → Hp → Prop := TupOf (LsOf R xs)
abbrev IsTp (Rs : List (V → Hp → Prop)) : V → Hp → Prop := TupOf (Args Rs)
def IsSq {α : Type} (R : α → V → Hp → Prop) (xs : List α) (v : V) (F : Hp) : Prop := IsL R xs v F ∨ IsTs R xs v F
theorem LsOf.up {α : Type} {R : α → V → Hp → Prop} {xs : List α} {vs : List V} {F : Hp} (h : LsOf R xs vs F) : Up (LsOf R xs) vs F := fun _ e => Paired.mapP h fun _ _ u => u.mono e
theorem LstOf.up {R : List V → Hp → Prop} {v : V} {F : Hp} (h : LstOf R v F) : Up (LstOf R) v F := fun F' e => by
  obtain ⟨a, vs, e1, e2, u⟩ := h
  exact ⟨a, vs, e1, e _ _ e2, u.mono e⟩
theorem TupOf.up {R : List V → Hp → Prop} {v : V} {F : Hp} (h : TupOf R v F) : Up (TupOf R) v F := fun F' e => by
  obtain ⟨a, vs, e1, e2, u⟩ := h
  exact ⟨a, vs, e1, e _ _ e2, u.mono e⟩
theorem LsOf.len {α : Type} {R : α → V → Hp → Prop} {xs : List α} {vs : List V} {F : Hp} (h : LsOf R xs vs F) : xs.length = vs.length := Paired.length h
theorem paired_get {α β : Type} {P : α → β → Prop} {xs : List α} {ys : List β} (p : Paired P xs ys) : ∀ (i : Nat) (x : α), xs[i]? = some x → ∃ y, ys[i]? = some y ∧ P x y := by
  induction p with
  | nil => intro i x e; simp at e
  | cons r t ih =>
    intro i x e
    cases i with
    | zero =>
      simp at e
      subst e
      exact ⟨_, rfl, r⟩
    | succ i =>
      simp at e
      obtain ⟨y, e1, u⟩ := ih i x e
      exact ⟨y, by simpa using e1, u⟩
theorem LsOf.get {α : Type} {R : α → V → Hp → Prop} {xs : List α} {vs : List V} {F : Hp} (h : LsOf R xs vs F) {i : Nat} {x : α} (e : xs[i]? = some x) : ∃ v, vs[i]? = some v ∧ Up (R x) v F := paired_get h i x e
theorem LsOf.snoc {α : Type} {R : α → V → Hp → Prop} {xs : List α} {vs : List V} {F : Hp} {x : α} {v : V} (h : LsOf R xs vs F) (u : Up (R x) v F) : LsOf R (xs ++ [x]) (vs ++ [v]) F := Paired.snoc h u
theorem LsOf.nil {α : Type} {R : α → V → Hp → Prop} {F : Hp} : LsOf R ([] : List α) [] F := Paired.nil
theorem paired_app {α β : Type} {P : α → β → Prop} {xs xs' : List α} {ys ys' : List β} (p : Paired P xs ys) (q : Paired P xs' ys') : Paired P (xs ++ xs') (ys ++ ys') := by
  induction p with
  | nil => exact q
  | cons r t ih => exact .cons r ih
theorem paired_drop {α β : Type} {P : α → β → Prop} {xs : List α} {ys : List β} (p : Paired P xs ys) : ∀ n, Paired P (xs.drop n) (ys.drop n) := by
  induction p with
  | nil => intro n; simp; exact .nil
  | cons r t ih =>
    intro n
    cases n with
    | zero => exact .cons r t
    | succ n => exact ih n
theorem paired_take {α β : Type} {P : α → β → Prop} {xs : List α} {ys : List β} (p : Paired P xs ys) : ∀ n, Paired P (xs.take n) (ys.take n) := by
  induction p with
  | nil => intro n; simp; exact .nil
  | cons r t ih =>
    intro n
    cases n with
    | zero => exact .nil
    | succ n => exact .cons r (ih n)
theorem paired_set {α β : Type} {P : α → β → Prop} {xs : List α} {ys : List β} {a : α} {b : β} (p : Paired P xs ys) (h : P a b) : ∀ n, Paired P (xs.set n a) (ys.set n b) := by
  induction p with
  | nil => intro n; exact .nil
  | cons r t ih =>
    intro n
    cases n with
    | zero => exact .cons h t
    | succ n => exact .cons r (ih n)
theorem args_ls {α : Type} {R : α → V → Hp → Prop} {F : Hp} : ∀ {xs : List α} {vs : List V}, Args (xs.map R) vs F → LsOf R xs vs F
  | [], [], _ => .nil
  | x :: xs, v :: vs, .cons r t => .cons r (args_ls t)
theorem ls_args {α : Type} {R : α → V → Hp → Prop} {F : Hp} : ∀ {xs : List α} {vs : List V}, LsOf R xs vs F → Args (xs.map R) vs F
  | [], [], _ => .nil
  | x :: xs, v :: vs, .cons r t => .cons r (ls_args t)
/-- a display as a list of one kind: xs.map R is the displays' kinds -/
theorem jm_ls {X : Cx} {E : En} {G : List Sl} {e : Expr} {α : Type} {R : α → V → Hp → Prop} (xs : List α) {Rs : List (V → Hp → Prop)} (p : PE X e (tM E G (Args Rs))) (h : Rs = xs.map R := by rfl) : PE X e (tM E G (LsOf R xs)) := by
  subst h
  exact jm_conv p fun v F q => args_ls q

section
variable {X : Cx} {E : En} {G : List Sl} {e a b c : Expr} {R R' Ra Rb Rz : V → Hp → Prop} {pos : Pos} {st : Stmt} {rest body : List Stmt} {Rt : V → Hp → Hp → Prop} {N N1 : List Sl → Prop}
/-! ### statements -/
theorem js_cons (p : PS X st (tS E G Rt N1)) (q : ∀ G1, N1 G1 → PSs X rest (tS E G1 Rt N)) : PSs X (st :: rest) (tS E G Rt N) :=
  PSs_imp (pss_cons p (PSs_any (ι := { G1 // N1 G1 }) (t := fun i => tS E i.1 Rt N) fun i => q i.1 i.2)) fun D σ H ⟨F, S, kn, kr⟩ =>
    ⟨F, S, fun G1 σ1 F1 H1 n1 S1 e1 => ⟨⟨G1, n1⟩, F1, S1, fun G2 σ2 F2 H2 n2 S2 e2 => kn G2 σ2 F2 H2 n2 S2 (e1.trans e2), kr⟩, kr⟩
theorem js_seq {G1 : List Sl} (p : PS X st (tS E G Rt (· = G1))) (q : PSs X rest (tS E G1 Rt N)) : PSs X (st :: rest) (tS E G Rt N) := js_cons p fun G2 h => by
  subst h
  exact q
theorem js_one (p : PS X st (tS E G Rt N)) : PSs X [st] (tS E G Rt N) := pss_one p
theorem js_nil (h : N G) : PSs X [] (tS E G Rt N) := PSs_imp pss_nil fun D σ H ⟨F, S, kn, kr⟩ => kn G σ F H h S (Ex.refl F)
theorem js_N (p : PS X st (tS E G Rt N1)) (h : ∀ G', N1 G' → N G') : PS X st (tS E G Rt N) := PS_imp p fun D σ H ⟨F, S, kn, kr⟩ => ⟨F, S, fun G' σ' F' H' n => kn G' σ' F' H' (h G' n), kr⟩
theorem jss_N {st : List Stmt} (p : PSs X st (tS E G Rt N1)) (h : ∀ G', N1 G' → N G') : PSs X st (tS E G Rt N) := PSs_imp p fun D σ H ⟨F, S, kn, kr⟩ => ⟨F, S, fun G' σ' F' H' n => kn G' σ' F' H' (h G' n), kr⟩
theorem js_set {i : Nat} (p : PS X st (tAsg (tE E G R) (gName i))) : PS X st (tS E G Rt (· = G.set i (.fz R))) := PS_imp p fun D σ H ⟨F, S, kn, kr⟩ =>
  ⟨F, S, fun v F' H' g u => kn _ _ F' H' rfl ((S.gr g).set_fz u) g.f⟩
theorem fresh_mt {σ : L2.St} {F H : Hp} (S : Sat E G σ F H) {p : Addr} (hp : H p = none) {j : Nat} {Rm : List V → Hp → Prop} (h : G[j]? = some (.mt Rm)) (hs : σ[j]? = some (some (.ref p))) : False := by
  obtain ⟨q, vs, e, _, _, e3, _⟩ := S.mt j Rm h
  rw [hs] at e
  cases e
  rw [hp] at e3
  cases e3
theorem Bs.none {F H : Hp} (b : Bs E F H) {p : Addr} (h : H p = none) : E.H p = none := b.back h
theorem js_setM {i : Nat} {Rm : List V → Hp → Prop} (p : PS X st (tAsg (tM E G Rm) (gName i))) : PS X st (tS E G Rt (· = G.set i (.mt Rm))) := PS_imp p fun D σ H ⟨F, S, kn, kr⟩ =>
  ⟨F, S, fun p vs F' H' g n1 n2 n3 u => kn _ _ F' H' rfl ((S.gr g).set_mt n2 (S.bs.back n1) n3 u fun j Rj _ h hs => fresh_mt S n1 h hs) g.f⟩
def Rn (R : V → Hp → Prop) : V → Hp → Hp → Prop := fun v F _ => Up R v F
def RnM (E : En) (Rm : List V → Hp → Prop) : V → Hp → Hp → Prop := fun v F H => ∃ p vs, v = .ref p ∧ E.H p = none ∧ F p = none ∧ H p = some (.lst vs) ∧ Up Rm vs F
theorem js_ret (p : PE X e (tE E G R)) : PS X (.Return (some e) pos) (tS E G (Rn R) N) := PS_imp (ps_ret p) fun D σ H ⟨F, S, kn, kr⟩ => ⟨F, S, fun v F' H' g u => kr v F' H' (S.bs.trans g) u⟩
theorem js_retM {Rm : List V → Hp → Prop} (p : PE X e (tM E G Rm)) : PS X (.Return (some e) pos) (tS E G (RnM E Rm) N) := PS_imp (ps_ret p) fun D σ H ⟨F, S, kn, kr⟩ =>
  ⟨F, S, fun p vs F' H' g n1 n2 n3 u => kr (.ref p) F' H' (S.bs.trans g) ⟨p, vs, rfl, S.bs.back n1, n2, n3, u⟩⟩
/-- return of a list's name -/
theorem js_retV {i : Nat} {Rm : List V → Hp → Prop} (p : PE X e (tVar i)) (h : G[i]? = some (.mt Rm)) : PS X (.Return (some e) pos) (tS E G (Rn (LstOf Rm)) N) := PS_imp (ps_ret p) fun D σ H ⟨F, S, kn, kr⟩ => by
  obtain ⟨p, vs, e1, h1, h2, h3, h4, S2⟩ := S.freeze h
  exact ⟨.ref p, e1, kr _ _ H S2.bs (LstOf.up ⟨p, vs, rfl, upd_same, h4.mono (Ex.new h1)⟩)⟩
theorem js_retVM {i : Nat} {Rm : List V → Hp → Prop} (p : PE X e (tVar i)) (h : G[i]? = some (.mt Rm)) : PS X (.Return (some e) pos) (tS E G (RnM E Rm) N) := PS_imp (ps_ret p) fun D σ H ⟨F, S, kn, kr⟩ => by
  obtain ⟨p, vs, e1, h1, h2, h3, h4⟩ := S.mt i Rm h
  exact ⟨.ref p, e1, kr _ F H S.bs ⟨p, vs, rfl, h2, h1, h3, h4⟩⟩
theorem js_if {b1 : Bool} {p q : List Stmt} (hc : PT X c (tT E G b1)) (h1 : b1 = true → PSs X p (tS E G Rt N)) (h2 : b1 = false → PSs X q (tS E G Rt N)) : PS X (.If c p q pos) (tS E G Rt N) :=
  PS_imp (ps_if hc (PSs_when h1) (PSs_when h2)) fun D σ H ⟨F, S, kn, kr⟩ => ⟨F, S, fun F1 H1 g1 => by
    cases b1 with
    | true =>
      show (true = true ∧ tS E G Rt N D σ H1)
      exact ⟨rfl, F1, S.gr g1, fun G2 σ2 F2 H2 n2 S2 e2 => kn G2 σ2 F2 H2 n2 S2 (g1.f.trans e2), kr⟩
    | false =>
      show (false = false ∧ tS E G Rt N D σ H1)
      exact ⟨rfl, F1, S.gr g1, fun G2 σ2 F2 H2 n2 S2 e2 => kn G2 σ2 F2 H2 n2 S2 (g1.f.trans e2), kr⟩⟩
theorem js_never (h : False) : PS X st (tS E G Rt N) := h.elim
theorem jss_never {st : List Stmt} (h : False) : PSs X st (tS E G Rt N) := h.elim
theorem js_expr (p : PE X e (tE E G R)) (hs : swapsWith e none pos.line X.env = pure false := by rfl) : PS X (.Expr e pos) (tS E G Rt (· = G)) := PS_imp (ps_expr p hs) fun D σ H ⟨F, S, kn, kr⟩ =>
  ⟨F, S, fun v F' H' g u => kn G σ F' H' rfl (S.gr g) g.f⟩
/-- xs.append(e), xs a list of this def's own -/
theorem js_append {i : Nat} {Rm Rm' : List V → Hp → Prop} {K : PySem.W.Frag} (p : PS X st (tDrop (tBM K "list" rAppend (tVar i) (tCons (tE E G R) tNil)))) (h : G[i]? = some (.mt Rm))
    (ha : ∀ vs v F, Up Rm vs F → Up R v F → Up Rm' (vs ++ [v]) F) (hz : ∀ vs F, Rm vs F → vs.length < sizeLine) : PS X st (tS E G Rt (· = G.set i (.mt Rm'))) := PS_imp p fun D σ H ⟨F, S, kn, kr⟩ => by
  obtain ⟨p, vs, e1, h1, h2, h3, h4⟩ := S.mt i Rm h
  refine ⟨.ref p, e1, .inl ⟨rfl, vs, .inl (.inl h3)⟩, F, S, fun v F1 H1 g1 u1 => ?_⟩
  have S1 := S.gr g1
  obtain ⟨p', vs', e1', h1', h2', h3', h4'⟩ := S1.mt i Rm h
  rw [e1] at e1'
  cases e1'
  refine ⟨p, vs', v, rfl, rfl, h3', hz vs' F1 h4'.here, ?_⟩
  exact kn _ σ F1 _ rfl (S1.turn h e1 (ha vs' v F1 h4' u1)) g1.f
/-- xs.append(ys), both of this def's own: ys freezes -/
theorem js_appendM {i j : Nat} {Rm Rm' Rj : List V → Hp → Prop} {K : PySem.W.Frag} (p : PS X st (tDrop (tBM K "list" rAppend (tVar i) (tCons (tVar j) tNil)))) (hij : i ≠ j) (h : G[i]? = some (.mt Rm)) (hj : G[j]? = some (.mt Rj))
    (ha : ∀ vs v F, Up Rm vs F → Up (LstOf Rj) v F → Up Rm' (vs ++ [v]) F) (hz : ∀ vs F, Rm vs F → vs.length < sizeLine) : PS X st (tS E G Rt (· = (G.set j (.fz (LstOf Rj))).set i (.mt Rm'))) := PS_imp p fun D σ H ⟨F, S, kn, kr⟩ => by
  obtain ⟨q, ws, e2, k1, k2, k3, k4, S2⟩ := S.freeze hj
  have h' : (G.set j (.fz (LstOf Rj)))[i]? = some (.mt Rm) := by rw [List.getElem?_set_ne (Ne.symm hij)]; exact h
  obtain ⟨p, vs, e1, h1, h2, h3, h4⟩ := S2.mt i Rm h'
  refine ⟨.ref p, e1, .inl ⟨rfl, vs, .inl (.inl h3)⟩, .ref q, e2, p, vs, .ref q, rfl, rfl, h3, hz vs _ h4.here, ?_⟩
  exact kn _ σ _ _ rfl (S2.turn h' e1 (ha vs (.ref q) _ h4 (LstOf.up ⟨q, ws, rfl, upd_same, k4.mono (Ex.new k1)⟩))) (Ex.new k1)
/-- xs.extend(e) -/
theorem js_extend {α : Type} {Rx : α → V → Hp → Prop} {ys : List α} {i : Nat} {Rm Rm' : List V → Hp → Prop} {K : PySem.W.Frag} (p : PS X st (tDrop (tBM K "list" rExtend (tVar i) (tCons (tE E G (IsL Rx ys)) tNil)))) (h : G[i]? = some (.mt Rm))
    (ha : ∀ vs ws F, Up Rm vs F → LsOf Rx ys ws F → Up Rm' (vs ++ ws) F) (hz : ∀ vs F, Rm vs F → vs.length + ys.length ≤ sizeLine) : PS X st (tS E G Rt (· = G.set i (.mt Rm'))) := PS_imp p fun D σ H ⟨F, S, kn, kr⟩ => by
  obtain ⟨p, vs, e1, h1, h2, h3, h4⟩ := S.mt i Rm h
  refine ⟨.ref p, e1, .inl ⟨rfl, vs, .inl (.inl h3)⟩, F, S, fun v F1 H1 g1 u1 => ?_⟩
  have S1 := S.gr g1
  obtain ⟨p', vs', e1', h1', h2', h3', h4'⟩ := S1.mt i Rm h
  rw [e1] at e1'
  cases e1'
  obtain ⟨b, ws, rfl, hb, hw⟩ := u1.here
  refine ⟨p, b, vs', ws, rfl, rfl, h3', g1.s _ _ hb, ?_, ?_⟩
  · rw [← hw.here.len]
    exact hz vs' F1 h4'.here
  · exact kn _ σ F1 _ rfl (S1.turn h e1 (ha vs' ws F1 h4' hw.here)) g1.f
/-- xs[k] = e, xs of this def's own -/
theorem js_setitem {i : Nat} {k : Int} {j : Nat} {Rm Rm' : List V → Hp → Prop} {ti : TE} (p : PS X st (tAsg (tE E G R) (gSub (tVar i) (tE E G (IsI k)) rSetL))) (h : G[i]? = some (.mt Rm))
    (hk : ∀ vs F, Rm vs F → ixN vs.length k = some j) (ha : ∀ vs v F, Up Rm vs F → Up R v F → Up Rm' (vs.set j v) F) : PS X st (tS E G Rt (· = G.set i (.mt Rm'))) := PS_imp p fun D σ H ⟨F, S, kn, kr⟩ => by
  refine ⟨F, S, fun v F1 H1 g1 u1 => ?_⟩
  have S1 := S.gr g1
  obtain ⟨p, vs, e1, h1, h2, h3, h4⟩ := S1.mt i Rm h
  refine ⟨.ref p, e1, F1, S1, fun w F2 H2 g2 u2 => ?_⟩
  have S2 := S1.gr g2
  obtain ⟨p', vs', e1', h1', h2', h3', h4'⟩ := S2.mt i Rm h
  rw [e1] at e1'
  cases e1'
  refine ⟨p, vs', k, j, rfl, u2.here, h3', hk vs' F2 h4'.here, ?_⟩
  exact kn _ σ F2 _ rfl (S2.turn h e1 (ha vs' v F2 h4' (u1.mono g2.f))) (g1.f.trans g2.f)
/-- x = xs.pop() -/
theorem js_pop {i j : Nat} {Rm Rm' : List V → Hp → Prop} {K : PySem.W.Frag} (p : PS X st (tAsg (tBM0 K "list" rPop (tVar i)) (gName j))) (hij : i ≠ j) (h : G[i]? = some (.mt Rm))
    (ha : ∀ vs F, Up Rm vs F → ∃ v, vs[vs.length - 1]? = some v ∧ Up R v F ∧ Up Rm' vs.dropLast F) : PS X st (tS E G Rt (· = (G.set i (.mt Rm')).set j (.fz R))) := PS_imp p fun D σ H ⟨F, S, kn, kr⟩ => by
  obtain ⟨p, vs, e1, h1, h2, h3, h4⟩ := S.mt i Rm h
  obtain ⟨v, hv, u, u'⟩ := ha vs F h4
  refine ⟨.ref p, e1, .inl ⟨rfl, vs, .inl (.inl h3)⟩, p, vs, v, rfl, rfl, h3, hv, ?_⟩
  exact kn _ _ F _ rfl ((S.turn h e1 u').set_fz u) (Ex.refl F)
/-! ### parallel assignments -/
theorem js_par {i j : Nat} (p : PS X st (tPar i j (tCons (tE E G Ra) (tCons (tE E G Rb) tNil)))) : PS X st (tS E G Rt (· = (G.set i (.fz Ra)).set j (.fz Rb))) := PS_imp p fun D σ H ⟨F, S, kn, kr⟩ =>
  ⟨F, S, fun v F1 H1 g1 u1 => ⟨F1, S.gr g1, fun w F2 H2 g2 u2 => ⟨v, w, rfl, kn _ _ F2 H2 rfl (((S.gr (g1.trans g2)).set_fz (u1.mono g2.f)).set_fz u2) (g1.trans g2).f⟩⟩⟩
theorem js_parFM {i j : Nat} {Rm : List V → Hp → Prop} (hij : i ≠ j) (p : PS X st (tPar i j (tCons (tE E G Ra) (tCons (tM E G Rm) tNil)))) : PS X st (tS E G Rt (· = (G.set i (.fz Ra)).set j (.mt Rm))) := PS_imp p fun D σ H ⟨F, S, kn, kr⟩ =>
  ⟨F, S, fun v F1 H1 g1 u1 => ⟨F1, S.gr g1, fun q ws F2 H2 g2 n1 n2 n3 u2 => ⟨v, .ref q, rfl, kn _ _ F2 H2 rfl (((S.gr (g1.trans g2)).set_fz (u1.mono g2.f)).set_mt n2 ((S.gr g1).bs.back n1) n3 u2 fun k Rk hk hG hs => by
    by_cases z : k = i
    · subst z
      have hl : k < G.length := by
        have := (List.getElem?_eq_some_iff.mp hG).1
        simpa using this
      rw [List.getElem?_set_self hl] at hG
      cases hG
    · rw [List.getElem?_set_ne (Ne.symm z)] at hG hs
      exact fresh_mt (S.gr g1) n1 hG hs) (g1.trans g2).f⟩⟩⟩
theorem js_parMM {i j : Nat} {Rm Rl : List V → Hp → Prop} (hij : i ≠ j) (p : PS X st (tPar i j (tCons (tM E G Rm) (tCons (tM E G Rl) tNil)))) : PS X st (tS E G Rt (· = (G.set i (.mt Rm)).set j (.mt Rl))) := PS_imp p fun D σ H ⟨F, S, kn, kr⟩ =>
  ⟨F, S, fun q ws F1 H1 g1 n1 n2 n3 u1 => ⟨F1, S.gr g1, fun q' ws' F2 H2 g2 m1 m2 m3 u2 => ⟨.ref q, .ref q', rfl, by
    have nq : q ≠ q' := ne_of_none n3 m1
    have np : E.pp ≠ some q := fun z => by
      obtain ⟨_, x, y, h2, _⟩ := S.ok.p q z
      rw [n1] at h2
      cases h2
    have f2 : F2 q = none := by
      cases z : F2 q with
      | none => rfl
      | some o =>
        rcases g2.n q o z with w | w
        · rw [n2] at w; cases w
        · rw [n3] at w; cases w
    have S1 := (S.gr (g1.trans g2)).set_mt (i := i) f2 (S.bs.back n1) (g2.k q _ n3 np) (u1.mono g2.f) fun k Rk hk hG hs => fresh_mt S n1 hG hs
    refine kn _ _ F2 H2 rfl (S1.set_mt m2 ((S.gr g1).bs.back m1) m3 u2 fun k Rk hk hG hs => ?_) (g1.trans g2).f
    by_cases z : k = i
    · subst z
      have hl : k < σ.length := by
        have := (List.getElem?_eq_some_iff.mp hs).1
        simpa using this
      rw [List.getElem?_set_self hl] at hs
      cases hs
      exact nq rfl
    · rw [List.getElem?_set_ne (Ne.symm z)] at hG hs
      exact fresh_mt (S.gr g1) m1 hG hs⟩⟩⟩
theorem js_parMF {i j : Nat} {Rm : List V → Hp → Prop} (hij : i ≠ j) (p : PS X st (tPar i j (tCons (tM E G Rm) (tCons (tE E G Rb) tNil)))) : PS X st (tS E G Rt (· = (G.set i (.mt Rm)).set j (.fz Rb))) := PS_imp p fun D σ H ⟨F, S, kn, kr⟩ =>
  ⟨F, S, fun q ws F1 H1 g1 n1 n2 n3 u1 => ⟨F1, S.gr g1, fun w F2 H2 g2 u2 => ⟨.ref q, w, rfl, by
    have np : E.pp ≠ some q := fun z => by
      obtain ⟨_, x, y, h2, _⟩ := S.ok.p q z
      rw [n1] at h2
      cases h2
    have f2 : F2 q = none := by
      cases z : F2 q with
      | none => rfl
      | some o =>
        rcases g2.n q o z with w | w
        · rw [n2] at w; cases w
        · rw [n3] at w; cases w
    have S1 := (S.gr (g1.trans g2)).set_mt (i := i) f2 (S.bs.back n1) (g2.k q _ n3 np) (u1.mono g2.f) fun k Rk hk hG hs => fresh_mt S n1 hG hs
    exact kn _ _ F2 H2 rfl (S1.set_fz u2) (g1.trans g2).f⟩⟩⟩
theorem js_par3 {i j l : Nat} {Rc : V → Hp → Prop} (p : PS X st (tPar3 i j l (tCons (tE E G Ra) (tCons (tE E G Rb) (tCons (tE E G Rc) tNil))))) : PS X st (tS E G Rt (· = ((G.set i (.fz Ra)).set j (.fz Rb)).set l (.fz Rc))) := PS_imp p fun D σ H ⟨F, S, kn, kr⟩ =>
  ⟨F, S, fun v F1 H1 g1 u1 => ⟨F1, S.gr g1, fun w F2 H2 g2 u2 => ⟨F2, S.gr (g1.trans g2), fun z F3 H3 g3 u3 => ⟨v, w, z, rfl,
    kn _ _ F3 H3 rfl ((((S.gr ((g1.trans g2).trans g3)).set_fz (u1.mono (g2.f.trans g3.f))).set_fz (u2.mono g3.f)).set_fz u3) ((g1.trans g2).trans g3).f⟩⟩⟩⟩
/-! ### targets -/
def tG (E : En) (R : V → Hp → Prop) (idx : List Nat) (f : List Sl → List Sl) : TG := fun v σ H Q => ∃ G F, Sat E G σ F H ∧ Up R v F ∧ ∀ σ', (∀ vs, (∀ k ∈ idx, k ∈ vs) → L2.wipe σ' vs = L2.wipe σ vs) → Sat E (f G) σ' F H → Q σ' H
theorem jg_name {i : Nat} (p : PG X e (gName i)) : PG X e (tG E R [i] (fun G => G.set i (.fz R))) := PG_imp p fun v σ H Q ⟨G, F, S, u, k⟩ => k _ (fun vs h => wipe_set (h i (by simp))) (S.set_fz u)
theorem jg_tup2 {i j : Nat} {K : PySem.W.Frag} (p : PG X e (gTup K 2 (gCons (gName i) (gCons (gName j) gNil)))) : PG X e (tG E (IsTp [Ra, Rb]) [i, j] (fun G => (G.set i (.fz Ra)).set j (.fz Rb))) := PG_imp p fun v σ H Q ⟨G, F, S, u, k⟩ => by
  obtain ⟨a, vs, rfl, ha, hu⟩ := u.here
  have hu := hu.here
  cases hu with
  | cons r1 t1 =>
    cases t1 with
    | cons r2 t2 =>
      cases t2
      refine ⟨a, _, rfl, .inl (.inl (S.ok.s _ _ ha)), rfl, _, _, rfl, _, _, rfl, rfl, k _ (fun vs h => ?_) ((S.set_fz r1).set_fz r2)⟩
      rw [wipe_set (h j (by simp)), wipe_set (h i (by simp))]
theorem jg_tup3 {i j l : Nat} {Rc : V → Hp → Prop} {K : PySem.W.Frag} (p : PG X e (gTup K 3 (gCons (gName i) (gCons (gName j) (gCons (gName l) gNil))))) : PG X e (tG E (IsTp [Ra, Rb, Rc]) [i, j, l] (fun G => ((G.set i (.fz Ra)).set j (.fz Rb)).set l (.fz Rc))) := PG_imp p fun v σ H Q ⟨G, F, S, u, k⟩ => by
  obtain ⟨a, vs, rfl, ha, hu⟩ := u.here
  have hu := hu.here
  cases hu with
  | cons r1 t1 =>
    cases t1 with
    | cons r2 t2 =>
      cases t2 with
      | cons r3 t3 =>
        cases t3
        refine ⟨a, _, rfl, .inl (.inl (S.ok.s _ _ ha)), rfl, _, _, rfl, _, _, rfl, _, _, rfl, rfl, k _ (fun vs h => ?_) (((S.set_fz r1).set_fz r2).set_fz r3)⟩
        rw [wipe_set (h l (by simp)), wipe_set (h j (by simp)), wipe_set (h i (by simp))]
theorem js_asg {idx : List Nat} {f : List Sl → List Sl} (p : PS X st (tAsg (tE E G R) (tG E R idx f))) : PS X st (tS E G Rt (· = f G)) := PS_imp p fun D σ H ⟨F, S, kn, kr⟩ =>
  ⟨F, S, fun v F1 H1 g1 u1 => ⟨G, F1, S.gr g1, u1, fun σ' _ S' => kn _ σ' F1 H1 rfl S' g1.f⟩⟩
/-! ### what is walked -/
structure Src {α : Type} (pp : Option Addr) (J : It) (F : Hp) (R : α → V → Hp → Prop) (xs : List α) : Prop where
  go : ∀ (i : Nat) (F1 H1 : Hp), i < xs.length → Ex F F1 → Ex F1 H1 → J.go i H1
  stop : ∀ (F1 H1 : Hp), Ex F F1 → Ex F1 H1 → J.stop xs.length H1
  yld : ∀ (i : Nat) (x : α) (F1 H1 : Hp) (v : V) (H2 : Hp), xs[i]? = some x → Ex F F1 → Ok pp F1 H1 → J.yld i H1 v H2 → ∃ F2, Gr pp F1 H1 F2 H2 ∧ Up (R x) v F2
def tI {α : Type} (E : En) (G : List Sl) (R : α → V → Hp → Prop) (xs : List α) : TI := fun σ H Rj => ∃ F, Sat E G σ F H ∧ ∀ J F' H', Gr E.pp F H F' H' → Src E.pp J F' R xs → Rj J H'
theorem src_list {α : Type} {pp : Option Addr} {K : PySem.W.Frag} {a : Addr} {vs : List V} {F : Hp} {Rx : α → V → Hp → Prop} {xs : List α} (h : F a = some (.lst vs)) (u : LsOf Rx xs vs F) : Src pp (Itl K a) F Rx xs where
  go := fun i F1 H1 hi e1 e2 => ⟨vs, vs[i]'(by rw [← u.len]; exact hi), .inl (.inl (e2 _ _ (e1 _ _ h))), by simp⟩
  stop := fun F1 H1 e1 e2 => ⟨vs, .inl (.inl (e2 _ _ (e1 _ _ h))), by rw [u.len]; exact Nat.le_refl _⟩
  yld := fun i x F1 H1 v H2 hx e1 o y => by
    obtain ⟨rfl, y⟩ := y
    obtain ⟨w, hw, uw⟩ := u.get hx
    have q := y vs (.inl (.inl (o.s _ _ (e1 _ _ h))))
    rw [hw] at q
    cases q
    exact ⟨F1, o.gr, uw.mono e1⟩
theorem src_tup {α : Type} {pp : Option Addr} {K : PySem.W.Frag} {a : Addr} {vs : List V} {F : Hp} {Rx : α → V → Hp → Prop} {xs : List α} (h : F a = some (.tup vs)) (u : LsOf Rx xs vs F) : Src pp (Itt K a) F Rx xs where
  go := fun i F1 H1 hi e1 e2 => ⟨vs, vs[i]'(by rw [← u.len]; exact hi), .inl (.inl (e2 _ _ (e1 _ _ h))), by simp⟩
  stop := fun F1 H1 e1 e2 => ⟨vs, .inl (.inl (e2 _ _ (e1 _ _ h))), by rw [u.len]; exact Nat.le_refl _⟩
  yld := fun i x F1 H1 v H2 hx e1 o y => by
    obtain ⟨rfl, y⟩ := y
    obtain ⟨w, hw, uw⟩ := u.get hx
    have q := y vs (.inl (.inl (o.s _ _ (e1 _ _ h))))
    rw [hw] at q
    cases q
    exact ⟨F1, o.gr, uw.mono e1⟩
theorem ji_list {α : Type} {Rx : α → V → Hp → Prop} {xs : List α} {K : PySem.W.Frag} {tg : Expr} (p : PI X tg e (iList K (tE E G (IsL Rx xs)))) : PI X tg e (tI E G Rx xs) := PI_imp p fun σ H Rj ⟨F, S, k⟩ =>
  ⟨F, S, fun v F1 H1 g1 u1 => by
    obtain ⟨a, vs, rfl, ha, u⟩ := u1.here
    exact ⟨a, rfl, ⟨vs, .inl (.inl (g1.s _ _ ha))⟩, k _ F1 H1 g1 (src_list ha u.here)⟩⟩
theorem ji_tup {α : Type} {Rx : α → V → Hp → Prop} {xs : List α} {K : PySem.W.Frag} {tg : Expr} (p : PI X tg e (iTup K (tE E G (IsTs Rx xs)))) : PI X tg e (tI E G Rx xs) := PI_imp p fun σ H Rj ⟨F, S, k⟩ =>
  ⟨F, S, fun v F1 H1 g1 u1 => by
    obtain ⟨a, vs, rfl, ha, u⟩ := u1.here
    exact ⟨a, rfl, ⟨vs, .inl (.inl (g1.s _ _ ha))⟩, k _ F1 H1 g1 (src_tup ha u.here)⟩⟩
theorem PI_or {tg : Expr} {t u : TI} (p : PI X tg e t) (q : PI X tg e u) : PI X tg e (fun σ H R => t σ H R ∨ u σ H R) := ⟨fun pins s σ H R I h => h.elim (p.run pins s σ H R I) (q.run pins s σ H R I)⟩
theorem ji_seq {α : Type} {Rx : α → V → Hp → Prop} {xs : List α} {K : PySem.W.Frag} {tg : Expr} {i : Nat} (p : PI X tg e (iList K (tVar i))) (q : PI X tg e (iTup K (tVar i))) (h : G[i]? = some (.fz (IsSq Rx xs))) : PI X tg e (tI E G Rx xs) := PI_imp (PI_or p q) fun σ H Rj ⟨F, S, k⟩ => by
  obtain ⟨v, e1, u1⟩ := S.fz i _ h
  rcases u1.here with ⟨a, vs, rfl, ha, u⟩ | ⟨a, vs, rfl, ha, u⟩
  · exact .inl ⟨.ref a, e1, a, rfl, ⟨vs, .inl (.inl (S.ok.s _ _ ha))⟩, k _ F H S.refl (src_list ha u.here)⟩
  · exact .inr ⟨.ref a, e1, a, rfl, ⟨vs, .inl (.inl (S.ok.s _ _ ha))⟩, k _ F H S.refl (src_tup ha u.here)⟩
def upTo (n : Nat) : List Int := (List.range n).map fun (i : Nat) => (i : Int)
theorem upTo_get {n i : Nat} {x : Int} (h : (upTo n)[i]? = some x) : x = i ∧ i < n := by
  unfold upTo at h
  rw [List.getElem?_map] at h
  by_cases hi : i < n
  · rw [List.getElem?_range hi] at h
    exact ⟨(Option.some.inj h).symm, hi⟩
  · rw [List.getElem?_eq_none (by simpa using hi)] at h
    cases h
theorem ji_range {n : Nat} {tg : Expr} (hn : n < 2 ^ 62) (p : PI X tg e (iRng1 (tA E G [IsI n]))) : PI X tg e (tI E G IsI (upTo n)) := PI_imp p fun σ H Rj ⟨F, S, k⟩ =>
  ⟨F, S, fun vs F1 H1 g1 a => by
    cases a with
    | cons r t =>
      cases t
      refine ⟨(n : Int), by rw [r.here], by omega, by exact_mod_cast hn, k _ F1 H1 g1 ?_⟩
      have hl : (upTo n).length = n := by simp [upTo]
      refine ⟨fun i F2 H2 hi _ _ => ?_, fun F2 H2 _ _ => ?_, fun i x F2 H2 v H3 hx _ o y => ?_⟩
      · show i < (n : Int).toNat
        rw [hl] at hi
        simpa using hi
      · show (n : Int).toNat ≤ _
        rw [hl]
        simp
      · obtain ⟨rfl, rfl⟩ := y
        obtain ⟨rfl, _⟩ := upTo_get hx
        exact ⟨F2, o.gr, fun _ _ => by show V.int (0 + (i : Int)) = V.int (i : Int); rw [Int.zero_add]⟩⟩
def enumL {α : Type} (xs : List α) : List (Int × α) := xs.zipIdx.map fun p => ((p.2 : Int), p.1)
theorem enumL_get {α : Type} {xs : List α} {i : Nat} {p : Int × α} (h : (enumL xs)[i]? = some p) : p.1 = i ∧ xs[i]? = some p.2 := by
  unfold enumL at h
  rw [List.getElem?_map, List.getElem?_zipIdx] at h
  cases e : xs[i]? with
  | none => rw [e] at h; cases h
  | some x =>
    rw [e] at h
    cases h
    exact ⟨by simp, rfl⟩
theorem enumL_len {α : Type} (xs : List α) : (enumL xs).length = xs.length := by simp [enumL]
theorem ji_enum {α : Type} {Rx : α → V → Hp → Prop} {xs : List α} {K : PySem.W.Frag} {tg : Expr} (p : PI X tg e (iEnum K (tA E G [IsL Rx xs]))) : PI X tg e (tI E G (fun q => IsTp [IsI q.1, Rx q.2]) (enumL xs)) := PI_imp p fun σ H Rj ⟨F, S, k⟩ =>
  ⟨F, S, fun vs F1 H1 g1 a => by
    cases a with
    | cons r t =>
      cases t
      obtain ⟨a, ws, rfl, ha, u⟩ := r.here
      have u := u.here
      refine ⟨a, ws, rfl, .inl (.inl (g1.s _ _ ha)), k _ F1 H1 g1 ⟨fun i F2 H2 hi e1 e2 => ?_, fun F2 H2 e1 e2 => ?_, fun i q F2 H2 v H3 hq e1 o y => ?_⟩⟩
      · rw [enumL_len] at hi
        exact ⟨ws, ws[i]'(by rw [← u.len]; exact hi), .inl (.inl (e2 _ _ (e1 _ _ ha))), by simp⟩
      · exact ⟨ws, .inl (.inl (e2 _ _ (e1 _ _ ha))), by rw [enumL_len, u.len]; exact Nat.le_refl _⟩
      · obtain ⟨T, x, rfl, hT, rfl, f⟩ := y
        obtain ⟨h1, h2⟩ := enumL_get hq
        obtain ⟨w, hw, uw⟩ := u.get h2
        have z := f ws (.inl (.inl (o.s _ _ (e1 _ _ ha))))
        rw [hw] at z
        cases z
        refine ⟨_, Gr.new o hT, TupOf.up ⟨T, _, rfl, upd_same, Args.up (.cons (fun _ _ => ?_) (.cons ((uw.mono e1).mono (Ex.new (o.s.back hT))) .nil))⟩⟩
        show V.int _ = V.int q.1
        rw [h1]⟩
theorem ji_zip {α β : Type} {Rx : α → V → Hp → Prop} {Ry : β → V → Hp → Prop} {xs : List α} {ys : List β} {K : PySem.W.Frag} {tg : Expr} (p : PI X tg e (iZip K (tA E G [IsL Rx xs, IsL Ry ys]))) :
    PI X tg e (tI E G (fun q : α × β => IsTp [Rx q.1, Ry q.2]) (xs.zip ys)) := PI_imp p fun σ H Rj ⟨F, S, k⟩ =>
  ⟨F, S, fun vs F1 H1 g1 a => by
    cases a with
    | cons r t =>
      cases t with
      | cons r2 t2 =>
        cases t2
        obtain ⟨a, ws, rfl, ha, u⟩ := r.here
        obtain ⟨b, zs, rfl, hb, w⟩ := r2.here
        have u := u.here
        have w := w.here
        refine ⟨a, b, ws, zs, rfl, .inl (.inl (g1.s _ _ ha)), .inl (.inl (g1.s _ _ hb)), k _ F1 H1 g1 ⟨fun i F2 H2 hi e1 e2 => ?_, fun F2 H2 e1 e2 => ?_, fun i q F2 H2 v H3 hq e1 o y => ?_⟩⟩
        · rw [List.length_zip, u.len, w.len] at hi
          exact ⟨ws, zs, ws[i]'(by omega), zs[i]'(by omega), .inl (.inl (e2 _ _ (e1 _ _ ha))), .inl (.inl (e2 _ _ (e1 _ _ hb))), by simp, by simp⟩
        · refine ⟨ws, zs, .inl (.inl (e2 _ _ (e1 _ _ ha))), .inl (.inl (e2 _ _ (e1 _ _ hb))), ?_⟩
          rw [List.length_zip, u.len, w.len]
          omega
        · obtain ⟨T, x, z, rfl, hT, rfl, f1, f2⟩ := y
          rw [List.getElem?_zip_eq_some] at hq
          obtain ⟨v1, hv1, uv1⟩ := u.get hq.1
          obtain ⟨v2, hv2, uv2⟩ := w.get hq.2
          have z1 := f1 ws (.inl (.inl (o.s _ _ (e1 _ _ ha))))
          have z2 := f2 zs (.inl (.inl (o.s _ _ (e1 _ _ hb))))
          rw [hv1] at z1
          rw [hv2] at z2
          have q1 : v1 = x := Option.some.inj z1
          have q2 : v2 = z := Option.some.inj z2
          subst q1
          subst q2
          have hx := Ex.new (o := HO.tup [v1, v2]) (o.s.back hT)
          exact ⟨_, Gr.new o hT, TupOf.up ⟨T, _, rfl, upd_same, Args.up (.cons ((uv1.mono e1).mono hx) (.cons ((uv2.mono e1).mono hx) .nil))⟩⟩⟩
/-! ### loops -/
theorem js_for {α : Type} {Rx : α → V → Hp → Prop} {xs : List α} {tg iter : Expr} {idx : List Nat} {f : α → List Sl → List Sl} (hp : PassesOwn (model X.prog X.w) X.A X.env X.xe) (hc : X.calm = true)
    (hi : PI X tg iter (tI E G Rx xs)) (hg : ∀ x, PG X tg (tG E (Rx x) idx (f x))) (Iv : Nat → List Sl → Prop) (h0 : Iv 0 G)
    (hb : ∀ (i : Nat) (x : α) (G1 : List Sl), xs[i]? = some x → Iv i G1 → PSs X body (tS E (f x G1) Rt (Iv (i + 1)))) (hN : ∀ G1, Iv xs.length G1 → N G1)
    (hs : ∀ x, foldedSetIterable iter X.env x = pure x := by intro _; rfl) : PS X (.For tg iter body [] pos) (tS E G Rt N) := by
  have pg : PG X tg (fun v σ H Q => ∃ x, tG E (Rx x) idx (f x) v σ H Q) := ⟨fun pins s σ H v u Q I r ⟨x, h⟩ => (hg x).run pins s σ H v u Q I r h⟩
  have pb := PSs_any (X := X) (st := body) (ι := { q : Nat × α × List Sl // xs[q.1]? = some q.2.1 ∧ Iv q.1 q.2.2 }) (t := fun q => tS E (f q.1.2.1 q.1.2.2) Rt (Iv (q.1.1 + 1))) fun q => hb _ _ _ q.2.1 q.2.2
  refine PS_imp (ps_for hp hc hi pg pb hs) fun D σ H ⟨F, S, kn, kr⟩ => ?_
  refine ⟨F, S, fun J F1 H1 g1 src => ?_⟩
  refine ⟨fun i m σ2 H2 => m = xs.length - i ∧ i ≤ xs.length ∧ ∃ G2 F2, Iv i G2 ∧ Sat E G2 σ2 F2 H2 ∧ Ex F1 F2, ⟨xs.length, rfl, Nat.zero_le _, G, F1, h0, S.gr g1, Ex.refl _⟩, ?_⟩
  rintro i m σ2 H2 ⟨rfl, hi', G2, F2, iv, S2, e2⟩
  by_cases hlt : i < xs.length
  · have hx : xs[i]? = some xs[i] := List.getElem?_eq_getElem hlt
    refine .inr ⟨src.go i F2 H2 hlt e2 S2.ok.s, fun σ3 H3 => ∃ G3 F3, Iv (i + 1) G3 ∧ Sat E G3 σ3 F3 H3 ∧ Ex F1 F3, fun σ3 H3 ⟨G3, F3, iv3, S3, e3⟩ => ⟨xs.length - (i + 1), by omega, rfl, hlt, G3, F3, iv3, S3, e3⟩, fun v H3 y => ?_⟩
    obtain ⟨F3, g3, u3⟩ := src.yld i _ F2 H2 v H3 hx e2 S2.ok y
    refine ⟨xs[i], G2, F3, S2.gr g3, u3, fun σ4 _ S4 => ?_⟩
    exact ⟨⟨(i, xs[i], G2), hx, iv⟩, F3, S4, fun G5 σ5 F5 H5 n5 S5 e5 => ⟨G5, F5, n5, S5, (e2.trans g3.f).trans e5⟩, kr⟩
  · have e : i = xs.length := by omega
    subst e
    exact .inl ⟨src.stop F2 H2 e2 S2.ok.s, kn G2 σ2 F2 H2 (hN G2 iv) S2 (g1.f.trans e2)⟩
theorem js_while {c : Expr} (hp : PassesOwn (model X.prog X.w) X.A X.env X.xe) (Iv : Nat → List Sl → Prop) {m0 : Nat} (h0 : Iv m0 G)
    (hb : ∀ (m : Nat) (G1 : List Sl), Iv m G1 → ∃ b1 : Bool, PT X c (tT E G1 b1) ∧ (b1 = true → PSs X body (tS E G1 Rt (fun G2 => ∃ m', m' < m ∧ Iv m' G2))) ∧ (b1 = false → N G1)) : PS X (.While c body [] pos) (tS E G Rt N) := by
  have pt := PT_any (X := X) (e := c) (ι := { q : Nat × List Sl // Iv q.1 q.2 }) (t := fun q => tT E q.1.2 (Classical.choose (hb _ _ q.2))) fun q => (Classical.choose_spec (hb _ _ q.2)).1
  have pb := PSs_any (X := X) (st := body) (ι := { q : Nat × List Sl // ∃ h : Iv q.1 q.2, Classical.choose (hb _ _ h) = true }) (t := fun q => tS E q.1.2 Rt (fun G2 => ∃ m', m' < q.1.1 ∧ Iv m' G2)) fun q => (Classical.choose_spec (hb _ _ q.2.1)).2.1 q.2.2
  refine PS_imp (ps_while hp pt pb) fun D σ H ⟨F, S, kn, kr⟩ => ?_
  refine ⟨fun m σ2 H2 => ∃ G2 F2, Iv m G2 ∧ Sat E G2 σ2 F2 H2 ∧ Ex F F2, ⟨m0, G, F, h0, S, Ex.refl _⟩, fun m σ2 H2 ⟨G2, F2, iv, S2, e2⟩ => ?_⟩
  refine ⟨⟨(m, G2), iv⟩, F2, S2, fun F3 H3 g3 => ?_⟩
  cases hb1 : Classical.choose (hb m G2 iv) with
  | true =>
    show ∃ N : L2.St → Hp → Prop, _
    refine ⟨fun σ4 H4 => ∃ m', m' < m ∧ ∃ G4 F4, Iv m' G4 ∧ Sat E G4 σ4 F4 H4 ∧ Ex F F4, fun σ4 H4 ⟨m', hm, q⟩ => ⟨m', hm, q⟩, ?_⟩
    exact ⟨⟨(m, G2), iv, hb1⟩, F3, S2.gr g3, fun G5 σ5 F5 H5 ⟨m', hm, iv5⟩ S5 e5 => ⟨m', hm, G5, F5, iv5, S5, (e2.trans g3.f).trans e5⟩, kr⟩
  | false =>
    show D.nx σ2 H3
    exact kn G2 σ2 F3 H3 ((Classical.choose_spec (hb m G2 iv)).2.2 hb1) (S2.gr g3) (e2.trans g3.f)
/-! ### comprehensions -/
theorem lc_read {α β : Type} {Rx : α → V → Hp → Prop} {xs : List α} {Ry : β → V → Hp → Prop} {own : List (Str × Nat)} {idx : List Nat} {f : α → List Sl → List Sl} (pr : α → Bool) (g : α → β) (hidx : ∀ k ∈ idx, k ∈ own.map (·.2)) (hz : xs.length < sizeLine) {σ : L2.St} {H : Hp} {Q : VK}
    (hw : tM E G (LsOf Ry ((xs.filter pr).map g)) σ H Q) : tLc (tI E G Rx xs) (fun v σ H Q => ∃ x, tG E (Rx x) idx (f x) v σ H Q) (fun σ H Q => ∃ q : { x // x ∈ xs }, tT E (f q.1 (wipeG G (own.map (·.2)))) (pr q.1) σ H Q)
      (fun σ H Q => ∃ q : { x // x ∈ xs ∧ pr x = true }, tE E (f q.1 (wipeG G (own.map (·.2)))) (Ry (g q.1)) σ H Q) (own.map (·.2)) σ H Q := by
  obtain ⟨F, S, k⟩ := hw
  refine ⟨F, S, fun J F1 H1 g1 src D hD => ?_⟩
  have hD0 : H D = none := g1.back hD
  have hpD : E.pp ≠ some D := fun z => by
    obtain ⟨_, x, y, h2, _⟩ := S.ok.p D z
    rw [hD0] at h2
    cases h2
  refine ⟨fun i m H2 => m = xs.length - i ∧ i ≤ xs.length ∧ ∃ F2 acc, Gr E.pp F H F2 H2 ∧ Ex F1 F2 ∧ F2 D = none ∧ H2 D = some (.lst acc) ∧ LsOf Ry (((xs.take i).filter pr).map g) acc F2,
    ⟨xs.length, rfl, Nat.zero_le _, F1, [], g1.trans (Gr.raw g1.ok hD), Ex.refl _, g1.s.back hD, upd_same, by simp; exact .nil⟩, ?_⟩
  rintro i m H2 ⟨rfl, hi', F2, acc, g2, e2, n2, d2, u2⟩
  have S2 := S.gr g2
  by_cases hlt : i < xs.length
  · have hx : xs[i]? = some xs[i] := List.getElem?_eq_getElem hlt
    have hm : xs[i] ∈ xs := List.getElem_mem hlt
    have htk : xs.take (i + 1) = xs.take i ++ [xs[i]] := by rw [List.take_add_one, hx]; rfl
    refine .inr ⟨src.go i F2 H2 hlt e2 S2.ok.s, fun H3 => ∃ F3 acc', Gr E.pp F H F3 H3 ∧ Ex F1 F3 ∧ F3 D = none ∧ H3 D = some (.lst acc') ∧ LsOf Ry (((xs.take (i + 1)).filter pr).map g) acc' F3,
      fun H3 q => ⟨xs.length - (i + 1), by omega, rfl, hlt, q⟩, fun v H3 y => ?_⟩
    obtain ⟨F3, g3, u3⟩ := src.yld i _ F2 H2 v H3 hx e2 S2.ok y
    have keep : ∀ {F' H' F'' H'' : Hp}, Gr E.pp F' H' F'' H'' → F' D = none → ∀ {o : HO}, H' D = some o → F'' D = none ∧ H'' D = some o := fun {F' H' F'' H''} gg hn {o} ho => by
      refine ⟨?_, gg.k D o ho hpD⟩
      cases z : F'' D with
      | none => rfl
      | some w =>
        rcases gg.n D w z with q | q
        · rw [hn] at q; cases q
        · rw [ho] at q; cases q
    obtain ⟨n3, d3⟩ := keep g3 n2 d2
    refine ⟨xs[i], wipeG G (own.map (·.2)), F3, (S2.gr g3).wipe _, u3, fun σ4 hw S4 => ⟨?_, ⟨xs[i], hm⟩, F3, S4, fun F4 H4 g4 => ?_⟩⟩
    · rw [hw _ hidx, wipe_idem fun _ h => h]
    · obtain ⟨n4, d4⟩ := keep g4 n3 d3
      cases hb : pr xs[i] with
      | true =>
        show ∃ q : { x // x ∈ xs ∧ pr x = true }, tE E (f q.1 (wipeG G (own.map (·.2)))) (Ry (g q.1)) σ4 H4 _
        refine ⟨⟨xs[i], hm, hb⟩, F4, S4.gr g4, fun z F5 H5 g5 u5 => ?_⟩
        obtain ⟨n5, d5⟩ := keep g5 n4 d4
        have gg := ((g2.trans g3).trans g4).trans g5
        have u2' : LsOf Ry (((xs.take i).filter pr).map g) acc F5 := u2.up F5 ((g3.f.trans g4.f).trans g5.f)
        have hl : acc.length ≤ i := by
          rw [← u2.len, List.length_map]
          exact Nat.le_trans (List.length_filter_le _ _) (by rw [List.length_take]; omega)
        refine ⟨acc, d5, by omega, F5, acc ++ [z], ?_, ((e2.trans g3.f).trans g4.f).trans g5.f, n5, upd_same, ?_⟩
        · exact {
            f := gg.f
            s := fun a o q => by
              have ne : a ≠ D := fun w => by rw [w, n5] at q; cases q
              rw [upd_ne ne]
              exact gg.s a o q
            k := fun a o q hp => by
              have ne : a ≠ D := fun w => by rw [w, hD0] at q; cases q
              rw [upd_ne ne]
              exact gg.k a o q hp
            n := gg.n
            p := fun a ha => by
              obtain ⟨q1, x, y, q2, q3⟩ := gg.p a ha
              have ne : a ≠ D := fun w => hpD (by rw [← w]; exact ha)
              exact ⟨q1, x, y, by rw [upd_ne ne]; exact q2, q3⟩ }
        · rw [htk, List.filter_append, List.map_append]
          have : List.filter pr [xs[i]] = [xs[i]] := by simp [hb]
          rw [this]
          exact u2'.snoc u5
      | false =>
        show ∃ F3 acc', _
        refine ⟨F4, acc, (g2.trans g3).trans g4, (e2.trans g3.f).trans g4.f, n4, d4, ?_⟩
        rw [htk, List.filter_append, List.map_append]
        have : List.filter pr [xs[i]] = [] := by simp [hb]
        rw [this, List.map_nil, List.append_nil]
        exact u2.up F4 (g3.f.trans g4.f)
  · have e : i = xs.length := by omega
    subst e
    rw [List.take_length] at u2
    exact .inl ⟨src.stop F2 H2 e2 S2.ok.s, k D acc F2 H2 g2 hD0 n2 d2 u2.up⟩
theorem jm_lc {α β : Type} {Rx : α → V → Hp → Prop} {xs : List α} {Ry : β → V → Hp → Prop} {tg iter elt : Expr} {ifs : List Expr} {scope : Scope} {own : List (Str × Nat)} {idx : List Nat} {f : α → List Sl → List Sl} (pr : α → Bool) (g : α → β)
    (hc : X.calm = true) (hN : X.N.Nodup) (hi : PI X tg iter (tI E G Rx xs)) (ok : BlkOk X.N X.env.scope scope own) (hidx : ∀ k ∈ idx, k ∈ own.map (·.2))
    (hg : ∀ (s : Shared) (H : Hp) (C : Addr) (cl : List (Str × Addr)) (fp : List Addr) (x : α), PG (X.blk s H scope (compEnvC scope cl C X.env) fp) tg (tG E (Rx x) idx (f x)))
    (ht : ∀ (s : Shared) (H : Hp) (C : Addr) (cl : List (Str × Addr)) (fp : List Addr) (x : α), x ∈ xs → PTs (X.blk s H scope (compEnvC scope cl C X.env) fp) ifs (tT E (f x (wipeG G (own.map (·.2)))) (pr x)))
    (he : ∀ (s : Shared) (H : Hp) (C : Addr) (cl : List (Str × Addr)) (fp : List Addr) (x : α), x ∈ xs → pr x = true → PE (X.blk s H scope (compEnvC scope cl C X.env) fp) elt (tE E (f x (wipeG G (own.map (·.2)))) (Ry (g x))))
    (hz : xs.length < sizeLine) (hs : ∀ x, foldedSetIterable iter X.env x = pure x := by intro _; rfl) :
    PE X (.ListComp elt [⟨tg, iter, ifs, 0⟩] scope pos) (tM E G (LsOf Ry ((xs.filter pr).map g))) := by
  refine PE_imp (pe_lc hc hN hi ok (g := fun v σ H Q => ∃ x, tG E (Rx x) idx (f x) v σ H Q) (tt := fun σ H Q => ∃ q : { x // x ∈ xs }, tT E (f q.1 (wipeG G (own.map (·.2)))) (pr q.1) σ H Q)
    (te := fun σ H Q => ∃ q : { x // x ∈ xs ∧ pr x = true }, tE E (f q.1 (wipeG G (own.map (·.2)))) (Ry (g q.1)) σ H Q)
    (fun s H C cl fp => ⟨fun pins s' σ H' v u Q I r ⟨x, h⟩ => (hg s H C cl fp x).run pins s' σ H' v u Q I r h⟩) (fun s H C cl fp => PTs_any fun q => ht s H C cl fp q.1 q.2) (fun s H C cl fp => PE_any fun q => he s H C cl fp q.1 q.2.1 q.2.2) hs) fun σ H Q hw => lc_read pr g hidx hz hw
end
end Gw
set_option maxHeartbeats 4000000
namespace Gw
open PySem PySem.Spec PyProof.Rows L2

/-! ### promises -/
def G0 (Rs : List (V → Hp → Prop)) (n : Nat) : List Sl := Rs.map Sl.fz ++ List.replicate (n - Rs.length) Sl.un
def GP (Rs : List (V → Hp → Prop)) (n : Nat) : List Sl := Sl.pot :: G0 Rs (n - 1)
section
variable {ι : Type} (Rs : ι → List (V → Hp → Prop)) (pre : ι → Prop)
/-- arguments of the kinds Rs w, under pre w: a value of the kind Rz w -/
def Pr (Rz : ι → V → Hp → Prop) : Sp := fun vs H Q _ => ∃ (F : Hp) (w : ι), Ok none F H ∧ Args (Rs w) vs F ∧ pre w ∧ ∀ v F' H', Gr none F H F' H' → Up (Rz w) v F' → Q v H'
/-- .. a new list -/
def PrM (Rz : ι → List V → Hp → Prop) : Sp := fun vs H Q _ => ∃ (F : Hp) (w : ι), Ok none F H ∧ Args (Rs w) vs F ∧ pre w ∧ ∀ p ws F' H', Gr none F H F' H' → H p = none → F' p = none → H' p = some (.lst ws) → Up (Rz w) ws F' → Q (.ref p) H'
/-- the law's list first -/
def PrP (Rz : ι → V → Hp → Prop) : Sp := fun vs H Q _ => ∃ (F : Hp) (q : Addr) (us : List V) (w : ι), vs = .ref q :: us ∧ Ok (some q) F H ∧ Args (Rs w) us F ∧ pre w ∧ ∀ v F' H', Gr (some q) F H F' H' → Up (Rz w) v F' → Q v H'
def PrPM (Rz : ι → List V → Hp → Prop) : Sp := fun vs H Q _ => ∃ (F : Hp) (q : Addr) (us : List V) (w : ι), vs = .ref q :: us ∧ Ok (some q) F H ∧ Args (Rs w) us F ∧ pre w ∧ ∀ p ws F' H', Gr (some q) F H F' H' → H p = none → F' p = none → H' p = some (.lst ws) → Up (Rz w) ws F' → Q (.ref p) H'
end
theorem args_fz {F : Hp} : ∀ {Rs : List (V → Hp → Prop)} {vs : List V}, Args Rs vs F → ∀ (i : Nat) (R : V → Hp → Prop), (Rs.map Sl.fz)[i]? = some (Sl.fz R) → ∃ v, (vs.map some)[i]? = some (some v) ∧ Up R v F
  | [], [], _, i, R, h => by simp at h
  | R0 :: Rs, v :: vs, .cons r t, i, R, h => by
    cases i with
    | zero =>
      simp at h
      subst h
      exact ⟨v, rfl, r⟩
    | succ i =>
      simp only [List.map_cons, List.getElem?_cons_succ] at h ⊢
      exact args_fz t i R h
theorem g0_kind {Rs : List (V → Hp → Prop)} {n i : Nat} {s : Sl} (h : (G0 Rs n)[i]? = some s) : (∃ R, s = .fz R ∧ (Rs.map Sl.fz)[i]? = some (.fz R)) ∨ s = .un := by
  unfold G0 at h
  rw [List.getElem?_append] at h
  split at h
  · rw [List.getElem?_map] at h ⊢
    cases e : Rs[i]? with
    | none => rw [e] at h; cases h
    | some R =>
      rw [e] at h
      cases h
      exact .inl ⟨R, rfl, rfl⟩
  · exact .inr (by
      have := List.mem_of_getElem? h
      exact (List.mem_replicate.mp this).2)
theorem sat_start {F H : Hp} {Rs : List (V → Hp → Prop)} {vs : List V} {N : List Str} (ok : Ok none F H) (a : Args Rs vs F) : Sat ⟨F, H, none⟩ (G0 Rs N.length) (L2.start N vs) F H where
  len := by
    unfold L2.start G0
    rw [List.length_append, List.length_append, List.length_map, List.length_map, List.length_replicate, List.length_replicate, a.len]
  bs := ok.gr
  p0 := fun _ h => nomatch h
  fz := fun i R h => by
    rcases g0_kind h with ⟨R', e, h2⟩ | e
    · cases e
      obtain ⟨v, h3, u⟩ := args_fz a i R h2
      refine ⟨v, ?_, u⟩
      unfold L2.start
      have hl := (List.getElem?_eq_some_iff.mp h3).1
      rw [List.getElem?_append_left hl]
      exact h3
    · cases e
  mt := fun i R h => by
    rcases g0_kind h with ⟨R', e, _⟩ | e <;> cases e
  ap := fun i j R S p _ h _ => by
    rcases g0_kind h with ⟨R', e, _⟩ | e <;> cases e
  pt := fun i h => by
    rcases g0_kind h with ⟨R', e, _⟩ | e <;> cases e
theorem sat_startP {F H : Hp} {q : Addr} {Rs : List (V → Hp → Prop)} {us : List V} {N : List Str} (ok : Ok (some q) F H) (a : Args Rs us F) (hn : 0 < N.length) : Sat ⟨F, H, some q⟩ (GP Rs N.length) (L2.start N (.ref q :: us)) F H := by
  have e : L2.start N (.ref q :: us) = some (.ref q) :: (us.map some ++ List.replicate (N.length - 1 - us.length) none) := by
    unfold L2.start
    rw [List.map_cons, List.cons_append, List.length_cons, show N.length - (us.length + 1) = N.length - 1 - us.length by omega]
  have k : ∀ {i : Nat} {s : Sl}, (GP Rs N.length)[i]? = some s → (i = 0 ∧ s = .pot) ∨ ∃ j, i = j + 1 ∧ (G0 Rs (N.length - 1))[j]? = some s := fun {i s} h => by
    cases i with
    | zero => exact .inl ⟨rfl, by unfold GP at h; simpa using h.symm⟩
    | succ j => exact .inr ⟨j, rfl, by unfold GP at h; simpa using h⟩
  refine ⟨?_, ok.gr, fun z hz => ?_, fun i R h => ?_, fun i R h => ?_, fun i j R S p _ h _ _ _ => ?_, fun i h => ?_⟩
  · rw [e]
    unfold GP G0
    simp [a.len]
  · cases hz
    obtain ⟨_, x, y, h2, _⟩ := ok.p q rfl
    exact ⟨_, h2⟩
  · rcases k h with ⟨_, e2⟩ | ⟨j, rfl, h2⟩
    · cases e2
    · rcases g0_kind h2 with ⟨R', e2, h3⟩ | e2
      · cases e2
        obtain ⟨v, h4, u⟩ := args_fz a j R h3
        refine ⟨v, ?_, u⟩
        rw [e, List.getElem?_cons_succ, List.getElem?_append_left (List.getElem?_eq_some_iff.mp h4).1]
        exact h4
      · cases e2
  · rcases k h with ⟨_, e2⟩ | ⟨j, rfl, h2⟩
    · cases e2
    · rcases g0_kind h2 with ⟨R', e2, h3⟩ | e2 <;> cases e2
  · rcases k h with ⟨_, e2⟩ | ⟨j, rfl, h2⟩
    · cases e2
    · rcases g0_kind h2 with ⟨R', e2, h3⟩ | e2 <;> cases e2
  · rcases k h with ⟨rfl, _⟩ | ⟨j, rfl, h2⟩
    · exact ⟨q, by rw [e]; rfl, rfl⟩
    · rcases g0_kind h2 with ⟨R', e2, h3⟩ | e2 <;> cases e2
section
variable {P : Program} {w : World} {K : PySem.W.Frag} {mg : Str → Option Value} {base : Heap} {x qual : Str} {params : Arguments} {body : List Stmt} {scope : Scope} {dvs : List V} {kws : List (Str × V)} {f : Addr} {fd : FuncData} {N ps : List Str} {k : Nat} {ι : Type} {Rs : ι → List (V → Hp → Prop)} {pre : ι → Prop}
/-- a def keeps its promise; N0: how its end is reached without a return -/
theorem fn_pr {Rz : ι → V → Hp → Prop} (Fd : FunD K x qual params body scope dvs kws f fd) (S : FnScope N ps scope) (hl : ∀ u, (Rs u).length = ps.length) (N0 : List Sl → Prop) (hN : ∀ G u, N0 G → ∀ F, Rz u .non F)
    (hb : ∀ (X : Cx) (u : ι) (E : En), (∃ cdv A outer s H E', X = cxOf CX0 P w K mg base N qual scope f cdv A outer s H E' ∧ Room k X.A) → pre u → E.pp = none → PSs X body (tS E (G0 (Rs u) N.length) (Rn (Rz u)) N0)) : FnOk P w K mg base CX0 (k + 1) f fd ps (Pr Rs pre Rz) := by
  refine Fd.ok S (fun vs H Q E ⟨F, u, ok, a, _, _⟩ => by rw [← a.len, hl]) (fun cdv A outer s H vs Q E hr ⟨F, u, ok, a, hp, kq⟩ => ?_)
  refine ⟨tS ⟨F, H, none⟩ (G0 (Rs u) N.length) (Rn (Rz u)) N0, hb _ u ⟨F, H, none⟩ ⟨cdv, A, outer, s, H, E, rfl, hr⟩ hp rfl, F, sat_start ok a, fun G' σ' F' H' n S' _ => ?_, fun v F' H' b r => kq v F' H' b r⟩
  exact kq .non F' H' S'.bs fun F2 _ => hN G' u n F2
theorem fn_prM {Rz : ι → List V → Hp → Prop} (Fd : FunD K x qual params body scope dvs kws f fd) (S : FnScope N ps scope) (hl : ∀ u, (Rs u).length = ps.length)
    (hb : ∀ (X : Cx) (u : ι) (E : En), (∃ cdv A outer s H E', X = cxOf CX0 P w K mg base N qual scope f cdv A outer s H E' ∧ Room k X.A) → pre u → E.pp = none → PSs X body (tS E (G0 (Rs u) N.length) (RnM E (Rz u)) (fun _ => False))) : FnOk P w K mg base CX0 (k + 1) f fd ps (PrM Rs pre Rz) := by
  refine Fd.ok S (fun vs H Q E ⟨F, u, ok, a, _, _⟩ => by rw [← a.len, hl]) (fun cdv A outer s H vs Q E hr ⟨F, u, ok, a, hp, kq⟩ => ?_)
  refine ⟨tS ⟨F, H, none⟩ (G0 (Rs u) N.length) (RnM ⟨F, H, none⟩ (Rz u)) (fun _ => False), hb _ u ⟨F, H, none⟩ ⟨cdv, A, outer, s, H, E, rfl, hr⟩ hp rfl, F, sat_start ok a, fun G' σ' F' H' n S' _ => n.elim, fun v F' H' b ⟨p, vs', e1, e2, e3, e4, u⟩ => ?_⟩
  subst e1
  exact kq p vs' F' H' b e2 e3 e4 u
theorem fn_prP {Rz : ι → V → Hp → Prop} (Fd : FunD K x qual params body scope dvs kws f fd) (S : FnScope N ps scope) (hl : ∀ u, (Rs u).length + 1 = ps.length) (hn : 0 < N.length)
    (hb : ∀ (X : Cx) (u : ι) (E : En), (∃ cdv A outer s H E', X = cxOf CX0 P w K mg base N qual scope f cdv A outer s H E' ∧ Room k X.A) → pre u → PSs X body (tS E (GP (Rs u) N.length) (Rn (Rz u)) (fun _ => False))) : FnOk P w K mg base CX0 (k + 1) f fd ps (PrP Rs pre Rz) := by
  refine Fd.ok S (fun vs H Q E ⟨F, q, us, u, e, ok, a, _, _⟩ => by rw [e, List.length_cons, ← a.len, hl]) (fun cdv A outer s H vs Q E hr ⟨F, q, us, u, e, ok, a, hp, kq⟩ => ?_)
  subst e
  exact ⟨tS ⟨F, H, some q⟩ (GP (Rs u) N.length) (Rn (Rz u)) (fun _ => False), hb _ u ⟨F, H, some q⟩ ⟨cdv, A, outer, s, H, E, rfl, hr⟩ hp, F, sat_startP ok a hn, fun G' σ' F' H' n S' _ => n.elim, fun v F' H' b r => kq v F' H' b r⟩
theorem fn_prPM {Rz : ι → List V → Hp → Prop} (Fd : FunD K x qual params body scope dvs kws f fd) (S : FnScope N ps scope) (hl : ∀ u, (Rs u).length + 1 = ps.length) (hn : 0 < N.length)
    (hb : ∀ (X : Cx) (u : ι) (E : En), (∃ cdv A outer s H E', X = cxOf CX0 P w K mg base N qual scope f cdv A outer s H E' ∧ Room k X.A) → pre u → PSs X body (tS E (GP (Rs u) N.length) (RnM E (Rz u)) (fun _ => False))) : FnOk P w K mg base CX0 (k + 1) f fd ps (PrPM Rs pre Rz) := by
  refine Fd.ok S (fun vs H Q E ⟨F, q, us, u, e, ok, a, _, _⟩ => by rw [e, List.length_cons, ← a.len, hl]) (fun cdv A outer s H vs Q E hr ⟨F, q, us, u, e, ok, a, hp, kq⟩ => ?_)
  subst e
  refine ⟨tS ⟨F, H, some q⟩ (GP (Rs u) N.length) (RnM ⟨F, H, some q⟩ (Rz u)) (fun _ => False), hb _ u ⟨F, H, some q⟩ ⟨cdv, A, outer, s, H, E, rfl, hr⟩ hp, F, sat_startP ok a hn, fun G' σ' F' H' n S' _ => n.elim, fun v F' H' b ⟨p, vs', e1, e2, e3, e4, u⟩ => ?_⟩
  subst e1
  exact kq p vs' F' H' b e2 e3 e4 u
end
section
variable {X : Cx} {E : En} {G : List Sl} {e a b c : Expr} {R R' Ra Rb Rz : V → Hp → Prop} {pos : Pos} {ι : Type} {Rs : ι → List (V → Hp → Prop)} {pre : ι → Prop} {E' : XK} {pp : Option Addr}
theorem rc_pr {Rf : ι → V → Hp → Prop} {dvs : List V} {Ss : List (V → Hp → Prop)} (w : ι) (hs : ∀ vs F, Args Ss vs F → Args (Rs w) (vs ++ dvs) F) (hp : pre w) : RC pp (fun vs H Q => Pr Rs pre Rf (vs ++ dvs) H Q E') Ss (Rf w) := fun vs F H Q ok a k =>
  ⟨F, w, ok.none, hs vs F a, hp, fun v F' H' g u => k v F' H' (g.lift ok) u⟩
theorem rcm_pr {Rf : ι → List V → Hp → Prop} {dvs : List V} {Ss : List (V → Hp → Prop)} (w : ι) (hs : ∀ vs F, Args Ss vs F → Args (Rs w) (vs ++ dvs) F) (hp : pre w) : RCM pp (fun vs H Q => PrM Rs pre Rf (vs ++ dvs) H Q E') Ss (Rf w) := fun vs F H Q ok a k =>
  ⟨F, w, ok.none, hs vs F a, hp, fun p ws F' H' g n1 n2 n3 u => k p ws F' H' (g.lift ok) n1 n2 n3 u⟩
/-- f(..), all arguments written -/
theorem je_f {Rf : ι → V → Hp → Prop} (w : ι) (p : PE X e (tCall (Pr Rs pre Rf) [] E' (tA E G (Rs w)))) (hp : pre w) : PE X e (tE E G (Rf w)) :=
  je_cb (r := fun vs H Q => Pr Rs pre Rf (vs ++ []) H Q E') p (rc_pr w (fun vs F h => by rw [List.append_nil]; exact h) hp)
theorem jm_f {Rf : ι → List V → Hp → Prop} (w : ι) (p : PE X e (tCall (PrM Rs pre Rf) [] E' (tA E G (Rs w)))) (hp : pre w) : PE X e (tM E G (Rf w)) :=
  jm_cb (r := fun vs H Q => PrM Rs pre Rf (vs ++ []) H Q E') p (rcm_pr w (fun vs F h => by rw [List.append_nil]; exact h) hp)
/-- the law's list as the first argument -/
def tAP (E : En) (G : List Sl) (Rs : List (V → Hp → Prop)) : TA := fun σ H Q => ∃ F q, Sat E G σ F H ∧ E.pp = some q ∧ ∀ vs F' H', Gr E.pp F H F' H' → Args Rs vs F' → Q (.ref q :: vs) H'
theorem ja_pot {i : Nat} {es : List Expr} {Rl : List (V → Hp → Prop)} (p : PE X e (tVar i)) (h : G[i]? = some .pot) (hr : PA X es (tA E G Rl)) (hs : starEach (e :: es) X.env = (false, eval e X.env) :: starEach es X.env := by rfl) : PA X (e :: es) (tAP E G Rl) :=
  PA_imp (pa_cons p hr hs) fun σ H Q ⟨F, q, S, hq, k⟩ => by
    obtain ⟨q', e1, e2⟩ := S.pt i h
    rw [hq] at e2
    cases e2
    exact ⟨.ref q, e1, F, S, fun vs F' H' g a => k vs F' H' g a⟩
theorem je_fP {Rf : ι → V → Hp → Prop} (w : ι) (hpot : ∃ i : Nat, G[i]? = some .pot) (p : PE X e (tCall (PrP Rs pre Rf) [] E' (tAP E G (Rs w)))) (hp : pre w) : PE X e (tE E G (Rf w)) := PE_imp p fun σ H Q ⟨F, S, k⟩ => by
  obtain ⟨i, hi⟩ := hpot
  obtain ⟨q, _, hq⟩ := S.pt i hi
  refine ⟨F, q, S, hq, fun vs F1 H1 g1 a => ⟨F1, q, vs, w, by rw [List.append_nil], by rw [← hq]; exact g1.ok, a, hp, fun v F2 H2 g2 u => k v F2 H2 (g1.trans (by rw [hq]; exact g2)) u⟩⟩
theorem jm_fP {Rf : ι → List V → Hp → Prop} (w : ι) (hpot : ∃ i : Nat, G[i]? = some .pot) (p : PE X e (tCall (PrPM Rs pre Rf) [] E' (tAP E G (Rs w)))) (hp : pre w) : PE X e (tM E G (Rf w)) := PE_imp p fun σ H Q ⟨F, S, k⟩ => by
  obtain ⟨i, hi⟩ := hpot
  obtain ⟨q, _, hq⟩ := S.pt i hi
  refine ⟨F, q, S, hq, fun vs F1 H1 g1 a => ⟨F1, q, vs, w, by rw [List.append_nil], by rw [← hq]; exact g1.ok, a, hp, fun p ws F2 H2 g2 n1 n2 n3 u => k p ws F2 H2 (g1.trans (by rw [hq]; exact g2)) (g1.back n1) n2 n3 u⟩⟩
/-- a kind with an open part, at a slot -/
def Som {α : Type} (P : α → Prop) (R : α → V → Hp → Prop) (v : V) (F : Hp) : Prop := ∃ x, P x ∧ R x v F
theorem js_open {α : Type} {P : α → Prop} {R : α → V → Hp → Prop} {i : Nat} {st : List Stmt} {Rt : V → Hp → Hp → Prop} {N : List Sl → Prop} (h : G[i]? = some (.fz (Som P R))) (hm : ∀ x v F F', R x v F → Ex F F' → R x v F')
    (k : ∀ x, P x → PSs X st (tS E (G.set i (.fz (R x))) Rt N)) : PSs X st (tS E G Rt N) := PSs_imp (PSs_any (ι := { x // P x }) (t := fun q => tS E (G.set i (.fz (R q.1))) Rt N) fun q => k q.1 q.2) fun D σ H ⟨F, S, kn, kr⟩ => by
  obtain ⟨v, e1, u⟩ := S.fz i _ h
  obtain ⟨x, px, r⟩ := u.here
  have S2 := S.set_fz (i := i) (R := R x) (v := v) fun F' e => hm x v F F' r e
  have e2 : σ.set i (some v) = σ := by
    apply List.ext_getElem?
    intro j
    by_cases hj : j = i
    · subst hj
      rw [List.getElem?_set_self (List.getElem?_eq_some_iff.mp e1).1, e1]
    · rw [List.getElem?_set_ne (Ne.symm hj)]
  rw [e2] at S2
  exact ⟨⟨x, px⟩, F, S2, kn, kr⟩
theorem js_weak {G' : List Sl} {st : List Stmt} {Rt : V → Hp → Hp → Prop} {N : List Sl → Prop} (h : Paired Le G G') (k : PSs X st (tS E G' Rt N)) : PSs X st (tS E G Rt N) := PSs_imp k fun D σ H ⟨F, S, kn, kr⟩ => ⟨F, S.weakL h, kn, kr⟩

/-! ### ints -/
theorem rop_ii {g : Int → Int → V} {i j : Int} (hz : ∀ F, Rz (g i j) F) : ROp pp (rI0 g) (IsI i) (IsI j) Rz := fun x y F H Q ok u1 u2 k => ⟨i, j, u1.here, u2.here, k _ F H ok.gr fun F' _ => hz F'⟩
theorem rop_add {i j : Int} : ROp pp (rI0 fun i j => .int (i + j)) (IsI i) (IsI j) (IsI (i + j)) := rop_ii fun _ => rfl
theorem rop_sub {i j : Int} : ROp pp (rI0 fun i j => .int (i - j)) (IsI i) (IsI j) (IsI (i - j)) := rop_ii fun _ => rfl
theorem rop_lt {i j : Int} : ROp pp (rI0 fun i j => .bl (decide (i < j))) (IsI i) (IsI j) (IsB (decide (i < j))) := rop_ii fun _ => rfl
theorem rop_le {i j : Int} : ROp pp (rI0 fun i j => .bl (decide (i ≤ j))) (IsI i) (IsI j) (IsB (decide (i ≤ j))) := rop_ii fun _ => rfl
theorem rop_gt {i j : Int} : ROp pp (rI0 fun i j => .bl (decide (j < i))) (IsI i) (IsI j) (IsB (decide (j < i))) := rop_ii fun _ => rfl
theorem rop_ge {i j : Int} : ROp pp (rI0 fun i j => .bl (decide (j ≤ i))) (IsI i) (IsI j) (IsB (decide (j ≤ i))) := rop_ii fun _ => rfl
theorem rop_C {C : Int → Int → Prop} {g : Int → Int → V} {i j : Int} (hc : C i j) (hz : ∀ F, Rz (g i j) F) : ROp pp (rI C g) (IsI i) (IsI j) Rz := fun x y F H Q ok u1 u2 k => ⟨i, j, u1.here, u2.here, hc, k _ F H ok.gr fun F' _ => hz F'⟩
theorem rop_mod {i j : Int} (h : 0 < j) : ROp pp (rI (fun _ j => 0 < j) fun i j => .int (i % j)) (IsI i) (IsI j) (IsI (i % j)) := rop_C h fun _ => rfl
theorem rop_mulW {i j : Int} (h : CMulW i j) : ROp pp (rI CMulW fun i j => .int (i * j)) (IsI i) (IsI j) (IsI (i * j)) := rop_C h fun _ => rfl
theorem rop_fdiv {i j : Int} (h : CDiv i j) : ROp pp (rI CDiv fun i j => .int (i / j)) (IsI i) (IsI j) (IsI (i / j)) := rop_C h fun _ => rfl
theorem rop_eqI {i j : Int} : ROp pp rEq (IsI i) (IsI j) (IsB (decide (i = j))) := fun x y F H Q ok u1 u2 k => by
  rw [u1.here, u2.here]
  refine ⟨rfl, k _ F H ok.gr fun F' _ => ?_⟩
  show V.bl _ = V.bl _
  congr 1
  simp
theorem rop_neI {i j : Int} : ROp pp rNe (IsI i) (IsI j) (IsB (!decide (i = j))) := fun x y F H Q ok u1 u2 k => by
  rw [u1.here, u2.here]
  refine ⟨rfl, k _ F H ok.gr fun F' _ => ?_⟩
  show V.bl _ = V.bl _
  congr 1
  simp
/-- // by any divisor but 0 below 2 ^ 9000 -/
def CFdW (_ j : Int) : Prop := j ≠ 0 ∧ j.natAbs.log2 < 9000
theorem op_fdW : OpR X (binaryOp .FloorDiv) (rI CFdW fun i j => .int (i.fdiv j)) := opI fun _ _ _ _ _ _ _ hc q => floordiv_int hc.1 q (.inl (PyProof.noPylong_of_log2 hc.2))
theorem rop_fdW {i j : Int} (h : CFdW i j) : ROp pp (rI CFdW fun i j => .int (i.fdiv j)) (IsI i) (IsI j) (IsI (i.fdiv j)) := rop_C h fun _ => rfl
def CPow' (i j : Int) : Prop := CPow i j
/-- x is None of an object, of None -/
theorem rop_isN {b : Bool} (h : ∀ v F, Ra v F → decide (v = .non) = b) : ROp pp (fun x y H Q => y = .non ∧ Q (.bl (decide (x = .non))) H) Ra IsN (IsB b) := fun x y F H Q ok u1 u2 k => ⟨u2.here, k _ F H ok.gr fun F' _ => by rw [h x F u1.here]; rfl⟩
theorem rop_notN {b : Bool} (h : ∀ v F, Ra v F → (!decide (v = .non)) = b) : ROp pp (fun x y H Q => y = .non ∧ Q (.bl (!decide (x = .non))) H) Ra IsN (IsB b) := fun x y F H Q ok u1 u2 k => ⟨u2.here, k _ F H ok.gr fun F' _ => by rw [h x F u1.here]; rfl⟩
theorem ls_ints {F : Hp} : ∀ {xs : List Int} {vs : List V}, LsOf IsI xs vs F → vs = xs.map V.int
  | [], [], _ => rfl
  | x :: xs, v :: vs, .cons r t => by
    have e : v = .int x := r.here
    rw [e, ls_ints t]
    rfl
theorem ls_bools {F : Hp} : ∀ {xs : List Bool} {vs : List V}, LsOf IsB xs vs F → vs = xs.map V.bl
  | [], [], _ => rfl
  | x :: xs, v :: vs, .cons r t => by
    have e : v = .bl x := r.here
    rw [e, ls_bools t]
    rfl
theorem inV_ints (i : Int) (xs : List Int) : inV (.int i) (xs.map V.int) = decide (i ∈ xs) := by
  unfold inV
  rw [List.any_map]
  induction xs with
  | nil => simp
  | cons x xs ih =>
    rw [List.any_cons, ih]
    show ((x == i) || decide (i ∈ xs)) = decide (i ∈ x :: xs)
    by_cases h : i = x
    · subst h; simp
    · have h2 : (x == i) = false := by simpa using (Ne.symm h)
      rw [h2]
      simp [h]
theorem rop_in {K : PySem.W.Frag} {i : Int} {xs : List Int} : ROp pp (rIn K false) (IsI i) (IsL IsI xs) (IsB (decide (i ∈ xs))) := fun x y F H Q ok u1 u2 k => by
  obtain ⟨a, vs, rfl, ha, u⟩ := u2.here
  have e := ls_ints u.here
  subst e
  rw [u1.here]
  refine ⟨a, _, rfl, .inl (.inl (.inl (ok.s _ _ ha))), rfl, ?_, k _ F H ok.gr fun F' _ => ?_⟩
  · rw [List.all_map]; simp [flatV]
  · show V.bl (if false = true then _ else inV (.int i) (xs.map V.int)) = _
    rw [if_neg Bool.false_ne_true, inV_ints]
theorem rop_notIn {K : PySem.W.Frag} {i : Int} {xs : List Int} : ROp pp (rIn K true) (IsI i) (IsL IsI xs) (IsB (!decide (i ∈ xs))) := fun x y F H Q ok u1 u2 k => by
  obtain ⟨a, vs, rfl, ha, u⟩ := u2.here
  have e := ls_ints u.here
  subst e
  rw [u1.here]
  refine ⟨a, _, rfl, .inl (.inl (.inl (ok.s _ _ ha))), rfl, ?_, k _ F H ok.gr fun F' _ => ?_⟩
  · rw [List.all_map]; simp [flatV]
  · show V.bl (if true = true then !inV (.int i) (xs.map V.int) else _) = _
    rw [if_pos rfl, inV_ints]
/-- xs != [] of ints -/
theorem dp_ints {K : PySem.W.Frag} {H : Hp} : ∀ xs : List Int, DpAll K H (xs.map V.int) (xs.map PyData.int)
  | [] => .nil
  | x :: xs => .cons (.int x) (dp_ints xs)
theorem shaped_ints (xs : List Int) : SeqAt.shaped (.list (xs.map PyData.int)) = true := by
  have h1 : ∀ xs : List Int, PyData.canLayAll0 (xs.map PyData.int) = true := fun xs => by
    induction xs with
    | nil => rfl
    | cons x xs ih =>
      show (PyData.canLay0 (.int x) && PyData.canLayAll0 (xs.map PyData.int)) = true
      rw [ih] <;> rfl
  have h2 : ∀ xs : List Int, PyData.depthAll (xs.map PyData.int) ≤ 1 := fun xs => by
    induction xs with
    | nil => exact Nat.zero_le _
    | cons x xs ih =>
      have e : PyData.depthAll (PyData.int x :: xs.map PyData.int) = max (PyData.depth (.int x)) (PyData.depthAll (xs.map PyData.int)) := by
        first | rfl | simp [PyData.depthAll]
      have e2 : PyData.depth (.int x) ≤ 1 := by first | decide | simp [PyData.depth]
      show PyData.depthAll (PyData.int x :: xs.map PyData.int) ≤ 1
      omega
  have e : PyData.depth (.list (xs.map PyData.int)) ≤ 64 := by
    have h := h2 xs
    simp only [PyData.depth]
    omega
  show (PyData.canLayAll0 (xs.map PyData.int) && decide (PyData.depth (.list (xs.map PyData.int)) ≤ 64)) = true
  rw [h1 xs, decide_eq_true e] <;> rfl
theorem rop_neNil {K : PySem.W.Frag} {xs : List Int} : ROp pp (rNeD K) (IsL IsI xs) (LstOf (LsOf IsI [])) (IsB (!xs.isEmpty)) := fun x y F H Q ok u1 u2 k => by
  obtain ⟨a, vs, rfl, ha, u⟩ := u1.here
  have e := ls_ints u.here
  subst e
  obtain ⟨b, ws, rfl, hb, w⟩ := u2.here
  have e2 := ls_ints w.here
  subst e2
  refine ⟨_, _, .lst (.inl (.inl (ok.s _ _ ha))) (dp_ints xs), .lst (.inl (.inl (ok.s _ _ hb))) (dp_ints []), shaped_ints xs, rfl, k _ F H ok.gr fun F' _ => ?_⟩
  show V.bl _ = V.bl _
  cases xs <;> simp [PyData.eqv, PyData.eqvAll]
/-! ### subscripts, slices, lists of lists -/
theorem rop_ixL {K : PySem.W.Frag} {α : Type} {Rx : α → V → Hp → Prop} {xs : List α} {j : Nat} {x : α} {i : Int} (h : xs[j]? = some x) (hi : i = (j : Int) := by rfl) : ROp pp (rIxL K) (IsL Rx xs) (IsI i) (Rx x) := fun y z F H Q ok u1 u2 k => by
  obtain ⟨a, vs, rfl, ha, u⟩ := u1.here
  obtain ⟨v, hv, uv⟩ := u.here.get h
  rw [u2.here]
  exact ⟨a, vs, i, v, rfl, rfl, .inl (.inl (ok.s _ _ ha)), by rw [hi]; exact atI_nat hv, k v F H ok.gr uv⟩
theorem rop_ixT {K : PySem.W.Frag} {Rl : List (V → Hp → Prop)} {j : Nat} {Rx : V → Hp → Prop} {i : Int} (h : Rl[j]? = some Rx) (hi : i = (j : Int) := by rfl) : ROp pp (rIxT K) (IsTp Rl) (IsI i) Rx := fun y z F H Q ok u1 u2 k => by
  obtain ⟨a, vs, rfl, ha, u⟩ := u1.here
  obtain ⟨v, hv, uv⟩ := Args.get u.here h
  rw [u2.here]
  exact ⟨a, vs, i, v, rfl, rfl, .inl (.inl (ok.s _ _ ha)), by rw [hi]; exact atI_nat hv, k v F H ok.gr uv⟩
theorem rop_cat {α : Type} {Rx : α → V → Hp → Prop} {xs ys : List α} (hz : xs.length + ys.length ≤ 100000) : ROpM pp rCat (IsL Rx xs) (IsL Rx ys) (LsOf Rx (xs ++ ys)) := fun y z F H Q ok u1 u2 k => by
  obtain ⟨a, vs, rfl, ha, u⟩ := u1.here
  obtain ⟨b, ws, rfl, hb, w⟩ := u2.here
  have h1 := u.here.len
  have h2 := w.here.len
  refine ⟨a, b, vs, ws, rfl, rfl, ok.s _ _ ha, ok.s _ _ hb, ?_, fun p hp => k p (vs ++ ws) F _ (Gr.raw ok hp) hp (ok.s.back hp) upd_same ?_⟩
  · have : (100000 : Nat) ≤ sizeLine := by decide
    omega
  · exact LsOf.up (paired_app u.here w.here)
theorem paired_rep {α β : Type} {P : α → β → Prop} {xs : List α} {ys : List β} (p : Paired P xs ys) : ∀ n, Paired P (List.replicate n xs).flatten (List.replicate n ys).flatten
  | 0 => by simp; exact .nil
  | n + 1 => by
    rw [List.replicate_succ, List.replicate_succ, List.flatten_cons, List.flatten_cons]
    exact paired_app p (paired_rep p n)
theorem rop_rep {α : Type} {Rx : α → V → Hp → Prop} {xs : List α} {n : Nat} (hz : xs.length * n ≤ 100000) (hn : n ≤ 100000) : ROpM pp rRep (IsL Rx xs) (IsI (n : Int)) (LsOf Rx (List.replicate n xs).flatten) := fun y z F H Q ok u1 u2 k => by
  obtain ⟨a, vs, rfl, ha, u⟩ := u1.here
  have h1 := u.here.len
  refine ⟨a, n, vs, rfl, u2.here, ok.s _ _ ha, by omega, by omega, ?_, fun p hp => k p _ F _ (Gr.raw ok hp) hp (ok.s.back hp) upd_same ?_⟩
  · have : (100000 : Nat) ≤ sizeLine := by decide
    rw [Int.toNat_natCast, ← h1]
    omega
  · rw [Int.toNat_natCast]
    exact LsOf.up (paired_rep u.here n)
theorem jo_none : PO X none (tO E G none) := PO_imp po_none fun σ H Q ⟨F, S, k⟩ => k F H S.refl
theorem jo_some {i : Int} (p : PE X e (tE E G (IsI i))) : PO X (some e) (tO E G (some i)) := PO_imp (po_some p) fun σ H Q ⟨F, S, k⟩ => ⟨F, S, fun v F1 H1 g u => ⟨i, u.here, k F1 H1 g⟩⟩
theorem jm_slice {K : PySem.W.Frag} {α : Type} {Rx : α → V → Hp → Prop} {xs ys : List α} {lo hi : Option Int} (p : PE X e (tSl (rSlL K) (tE E G (IsL Rx xs)) (tO E G lo) (tO E G hi)))
    (h : ys = (xs.drop (HT.sIx xs.length 0 lo)).take (HT.sIx xs.length xs.length hi - HT.sIx xs.length 0 lo)) : PE X e (tM E G (LsOf Rx ys)) := PE_imp p fun σ H Q ⟨F, S, k⟩ =>
  ⟨F, S, fun x F1 H1 g1 u1 => ⟨F1, S.gr g1, fun F2 H2 g2 => ⟨F2, S.gr (g1.trans g2), fun F3 H3 g3 => by
    obtain ⟨a, vs, rfl, ha, u⟩ := u1.here
    have u2 := u.here
    refine ⟨a, vs, rfl, .inl (.inl (g3.s _ _ (g3.f _ _ (g2.f _ _ ha)))), fun p hp => ?_⟩
    have g := (g1.trans g2).trans g3
    refine k p (cutV vs lo hi) F3 _ (g.trans (Gr.raw g.ok hp)) (g.back hp) (g.s.back hp) upd_same ?_
    subst h
    unfold cutV
    rw [← u2.len]
    exact (LsOf.up (paired_take (paired_drop u2 _) _)).mono (g2.f.trans g3.f)⟩⟩⟩
theorem cut_from (n k : Nat) {α : Type} (xs : List α) (hl : xs.length = n) : (xs.drop (HT.sIx n 0 (some (k : Int)))).take (HT.sIx n n none - HT.sIx n 0 (some (k : Int))) = xs.drop k := by
  rw [show HT.sIx n 0 (some (k : Int)) = min k n from HT.sIx_nat n 0 k, show HT.sIx n n none = n from rfl]
  rw [List.take_of_length_le (by rw [List.length_drop, hl]; exact Nat.le_refl _)]
  by_cases h : k ≤ n
  · rw [Nat.min_eq_left h]
  · rw [Nat.min_eq_right (by omega), List.drop_of_length_le (by omega), List.drop_of_length_le (by omega)]
theorem cut_to (n k : Nat) {α : Type} (xs : List α) (hl : xs.length = n) : (xs.drop (HT.sIx n 0 none)).take (HT.sIx n n (some (k : Int)) - HT.sIx n 0 none) = xs.take k := by
  rw [show HT.sIx n n (some (k : Int)) = min k n from HT.sIx_nat n n k, show HT.sIx n 0 none = 0 from rfl]
  rw [List.drop_zero, Nat.sub_zero]
  by_cases h : k ≤ n
  · rw [Nat.min_eq_left h]
  · rw [Nat.min_eq_right (by omega), List.take_of_length_le (by omega), List.take_of_length_le (by omega)]
/-! ### built-ins -/
theorem rc_len {α : Type} {Rx : α → V → Hp → Prop} {xs : List α} {K : PySem.W.Frag} : RC pp (fun us H Q => ∃ x n, us = [x] ∧ LenV K x H n ∧ Q (.int n) H) [IsL Rx xs] (IsI (xs.length : Int)) := fun vs F H Q ok a k => by
  cases a with
  | cons r t =>
    cases t
    obtain ⟨p, ws, rfl, ha, u⟩ := r.here
    exact ⟨_, ws.length, rfl, .inl ⟨ws, .inl (.inl (ok.s _ _ ha)), rfl⟩, k _ F H ok.gr fun F' _ => by rw [u.here.len]; rfl⟩
theorem rc_lenT {α : Type} {Rx : α → V → Hp → Prop} {xs : List α} {K : PySem.W.Frag} : RC pp (fun us H Q => ∃ x n, us = [x] ∧ LenV K x H n ∧ Q (.int n) H) [IsTs Rx xs] (IsI (xs.length : Int)) := fun vs F H Q ok a k => by
  cases a with
  | cons r t =>
    cases t
    obtain ⟨p, ws, rfl, ha, u⟩ := r.here
    exact ⟨_, ws.length, rfl, .inr ⟨ws, .inl (.inl (ok.s _ _ ha)), rfl⟩, k _ F H ok.gr fun F' _ => by rw [u.here.len]; rfl⟩
theorem rc_lenTp {Rl : List (V → Hp → Prop)} {K : PySem.W.Frag} : RC pp (fun us H Q => ∃ x n, us = [x] ∧ LenV K x H n ∧ Q (.int n) H) [IsTp Rl] (IsI (Rl.length : Int)) := fun vs F H Q ok a k => by
  cases a with
  | cons r t =>
    cases t
    obtain ⟨p, ws, rfl, ha, u⟩ := r.here
    exact ⟨_, ws.length, rfl, .inr ⟨ws, .inl (.inl (ok.s _ _ ha)), rfl⟩, k _ F H ok.gr fun F' _ => by rw [Args.len u.here]; rfl⟩
theorem rc_lenS {α : Type} {Rx : α → V → Hp → Prop} {xs : List α} {K : PySem.W.Frag} : RC pp (fun us H Q => ∃ x n, us = [x] ∧ LenV K x H n ∧ Q (.int n) H) [IsSq Rx xs] (IsI (xs.length : Int)) := fun vs F H Q ok a k => by
  cases a with
  | cons r t =>
    cases t
    rcases r.here with h | h
    · exact rc_len (K := K) (Rx := Rx) (xs := xs) [_] F H Q ok (.cons h.up .nil) k
    · exact rc_lenT (K := K) (Rx := Rx) (xs := xs) [_] F H Q ok (.cons h.up .nil) k
theorem rc_all {xs : List Bool} {K : PySem.W.Frag} : RC pp (rAll K) [IsL IsB xs] (IsB (xs.all id)) := fun vs F H Q ok a k => by
  cases a with
  | cons r t =>
    cases t
    obtain ⟨p, ws, rfl, ha, u⟩ := r.here
    have e := ls_bools u.here
    subst e
    exact ⟨p, xs, rfl, .inl (.inl (ok.s _ _ ha)), k _ F H ok.gr fun F' _ => rfl⟩
theorem rc_any {xs : List Bool} {K : PySem.W.Frag} : RC pp (rAny K) [IsL IsB xs] (IsB (xs.any id)) := fun vs F H Q ok a k => by
  cases a with
  | cons r t =>
    cases t
    obtain ⟨p, ws, rfl, ha, u⟩ := r.here
    have e := ls_bools u.here
    subst e
    exact ⟨p, xs, rfl, .inl (.inl (ok.s _ _ ha)), k _ F H ok.gr fun F' _ => rfl⟩
theorem rc_sum {xs : List Int} {K : PySem.W.Frag} : RC pp (rSum K) [IsL IsI xs] (IsI xs.sum) := fun vs F H Q ok a k => by
  cases a with
  | cons r t =>
    cases t
    obtain ⟨p, ws, rfl, ha, u⟩ := r.here
    have e := ls_ints u.here
    subst e
    exact ⟨p, xs, rfl, .inl (.inl (ok.s _ _ ha)), k _ F H ok.gr fun F' _ => rfl⟩
theorem rc_int {b : Bool} : RC pp (fun xs H Q => (∃ i, xs = [.int i] ∧ Q (.int i) H) ∨ ∃ k, xs = [.bl k] ∧ Q (.int (if k then 1 else 0)) H) [IsB b] (IsI (if b then 1 else 0)) := fun vs F H Q ok a k => by
  cases a with
  | cons r t =>
    cases t
    exact .inr ⟨b, by rw [r.here], k _ F H ok.gr fun F' _ => rfl⟩
theorem rc_intI {i : Int} : RC pp (fun xs H Q => (∃ i, xs = [.int i] ∧ Q (.int i) H) ∨ ∃ k, xs = [.bl k] ∧ Q (.int (if k then 1 else 0)) H) [IsI i] (IsI i) := fun vs F H Q ok a k => by
  cases a with
  | cons r t =>
    cases t
    exact .inl ⟨i, by rw [r.here], k _ F H ok.gr fun F' _ => rfl⟩
theorem rc_abs {i : Int} : RC pp (fun xs H Q => ∃ i, xs = [.int i] ∧ Q (.int (if i < 0 then -i else i)) H) [IsI i] (IsI (if i < 0 then -i else i)) := fun vs F H Q ok a k => by
  cases a with
  | cons r t =>
    cases t
    exact ⟨i, by rw [r.here], k _ F H ok.gr fun F' _ => rfl⟩
theorem rc_max2 {i j : Int} : RC pp (fun xs H Q => ∃ i j, xs = [.int i, .int j] ∧ Q (.int (if j > i then j else i)) H) [IsI i, IsI j] (IsI (if j > i then j else i)) := fun vs F H Q ok a k => by
  cases a with
  | cons r t =>
    cases t with
    | cons r2 t2 =>
      cases t2
      exact ⟨i, j, by rw [r.here, r2.here], k _ F H ok.gr fun F' _ => rfl⟩
theorem rc_gcd {i j : Int} : RC pp rGcd [IsI i, IsI j] (IsI ((Nat.gcd i.natAbs j.natAbs : Nat) : Int)) := fun vs F H Q ok a k => by
  cases a with
  | cons r t =>
    cases t with
    | cons r2 t2 =>
      cases t2
      exact ⟨i, j, by rw [r.here, r2.here], k _ F H ok.gr fun F' _ => rfl⟩
/-- lcm below 13,000 bits -/
def rLcm : List V → Hp → VK → Prop := fun vs H Q => ∃ a b : Int, vs = [.int a, .int b] ∧ (max 1 a.natAbs).log2 < 13000 ∧ (max a.natAbs b.natAbs).log2 < 13000 ∧ (Nat.lcm a.natAbs b.natAbs).log2 < 100000 ∧ Q (.int ((Nat.lcm a.natAbs b.natAbs : Nat) : Int)) H
theorem cr_lcm : CallR X (.builtin "math.lcm") rLcm := by
  intro pins s σ H vs us Q I r h
  obtain ⟨a, b, rfl, h1, h2, h3, q⟩ := h
  obtain ⟨t, u, rfl⟩ := Vals.int2 r
  have e1 : (Nat.lcm 1 a.natAbs).lcm b.natAbs = Nat.lcm a.natAbs b.natAbs := by rw [Nat.lcm_one_left]
  have hb : bitsLine = 134217728 := by decide
  have z := PySem.W.mg_run_lcm a t b u (by omega) (by omega) (by
    show (((Nat.lcm 1 a.natAbs).lcm b.natAbs : Nat) : Int).natAbs.log2 < bitsLine
    rw [e1, Int.natAbs_natCast, hb]
    omega)
  rw [e1] at z
  exact PySem.call_function_meets PySem.W.MGF.kind_lcm PySem.W.MGF.plain_lcm PySem.W.MGF.entry_lcm (PySem.W.MGF.args_lcm _ _) z.meets ⟨.int _, H, I.tok _, ⟨_, rfl⟩, q⟩
theorem rc_lcm {i j : Int} (h1 : (max 1 i.natAbs).log2 < 13000) (h2 : (max i.natAbs j.natAbs).log2 < 13000) (h3 : (Nat.lcm i.natAbs j.natAbs).log2 < 100000) : RC pp rLcm [IsI i, IsI j] (IsI ((Nat.lcm i.natAbs j.natAbs : Nat) : Int)) := fun vs F H Q ok a k => by
  cases a with
  | cons r t =>
    cases t with
    | cons r2 t2 =>
      cases t2
      exact ⟨i, j, by rw [r.here, r2.here], h1, h2, h3, k _ F H ok.gr fun F' _ => rfl⟩
theorem rc_tuple {α : Type} {Rx : α → V → Hp → Prop} {xs : List α} {K : PySem.W.Frag} : RC pp (fun us H Q => ∃ p ys, us = [.ref p] ∧ ((SqL K H p ys ∧ ∀ l, H l = none → Q (.ref l) (upd H l (.tup ys))) ∨ (SqT K H p ys ∧ Q (.ref p) H))) [IsL Rx xs] (IsTs Rx xs) := fun vs F H Q ok a k => by
  cases a with
  | cons r t =>
    cases t
    obtain ⟨p, ws, rfl, ha, u⟩ := r.here
    refine ⟨p, ws, rfl, .inl ⟨.inl (.inl (ok.s _ _ ha)), fun l hl => k _ _ _ (Gr.new ok hl) (TupOf.up ⟨l, ws, rfl, upd_same, u.mono (Ex.new (ok.s.back hl))⟩)⟩⟩
theorem jm_listRg {n : Nat} (p : PE X e (tLstRg (tRg1 (tE E G (IsI (n : Int)))))) (hn : n ≤ 100000) : PE X e (tM E G (LsOf IsI (upTo n))) := PE_imp p fun σ H Q ⟨F, S, k⟩ =>
  ⟨F, S, fun v F1 H1 g1 u1 => ⟨n, u1.here, RgOk.of_le (by omega) (by omega) (by omega) (by omega), fun q hq => k q _ F1 _ (g1.trans (Gr.raw g1.ok hq)) (g1.back hq) (g1.s.back hq) upd_same fun F' _ => by
    have all : ∀ l : List Nat, LsOf IsI (l.map fun (i : Nat) => (i : Int)) (l.map fun (i : Nat) => V.int (0 + (i : Int))) F' := fun l => by
      induction l with
      | nil => exact Paired.nil
      | cons x l ih => exact Paired.cons (fun _ _ => by show V.int (0 + (x : Int)) = V.int (x : Int); rw [Int.zero_add]) ih
    show LsOf IsI ((List.range n).map fun (i : Nat) => (i : Int)) ((List.range ((n : Int) - 0).toNat).map fun i => V.int (0 + (i : Nat))) F'
    rw [Int.sub_zero, Int.toNat_natCast]
    exact all _⟩⟩
end
end Gw
set_option maxHeartbeats 4000000
namespace PySem
open Sem (wp)
open Builtin
/-! an int's operator declines an instance -/
theorem gw_int_mul_inst (a : Int) (t : Tok) (l C dx : Addr) :
    Meets (Builtin.«int.__mul__» ⟨[.int a t, .ref l], []⟩) (fun _ R s => s.heap.get? l = some { cls := .ref C, dict := some dx, data := .plain, slots := #[] } ∧ R (.ok (.ret Value.notImplemented)) s) :=
  .of_wp fun prog w A R s h => by obtain ⟨hp, g, d, tk, os⟩ := s; obtain ⟨hl, h⟩ := h; wp_walk; exact ⟨_, rfl, h⟩
theorem gw_int_add_inst (a : Int) (t : Tok) (l C dx : Addr) :
    Meets (Builtin.«int.__add__» ⟨[.int a t, .ref l], []⟩) (fun _ R s => s.heap.get? l = some { cls := .ref C, dict := some dx, data := .plain, slots := #[] } ∧ R (.ok (.ret Value.notImplemented)) s) :=
  .of_wp fun prog w A R s h => by obtain ⟨hp, g, d, tk, os⟩ := s; obtain ⟨hl, h⟩ := h; wp_walk; exact ⟨_, rfl, h⟩
theorem gw_int_sub_inst (a : Int) (t : Tok) (l C dx : Addr) :
    Meets (Builtin.«int.__sub__» ⟨[.int a t, .ref l], []⟩) (fun _ R s => s.heap.get? l = some { cls := .ref C, dict := some dx, data := .plain, slots := #[] } ∧ R (.ok (.ret Value.notImplemented)) s) :=
  .of_wp fun prog w A R s h => by obtain ⟨hp, g, d, tk, os⟩ := s; obtain ⟨hl, h⟩ := h; wp_walk; exact ⟨_, rfl, h⟩
end PySem

namespace PySem.W
open Lean Elab Tactic Meta PySem PySem.Calls PyProof.Rows
section
variable {prog : Program} {w : World} {A : Around} {E : Value → Shared → Prop} {s : Shared} {K : Frag} {b C L f f0 : Addr} {h₀ : Heap} {m : Str → Option Value} {ox : Obj} {od : Option Obj}
/-- an int, an operator, an instance whose class has the reflected method -/
theorem gw_rbin {op : Operator} {i : Int} {t : Tok} {Q : Value → Shared → Prop} (F : Fr h₀ L s.heap m) (X₀ : K.In h₀) (I : InstAt s.heap b ox C od) (hc : selfFirst K C = true)
    (hs : findIn K (.ref C) (PySem.dunder op.info.2) = some (some (.ref f0))) (hr : findIn K (.ref C) (dunderR op.info.2) = some (some (.ref f))) (hf : isFn K (.ref f) = true) (hsub : subIn K (.ref C) (.type "int") = some false)
    (hfi : fillsNumberSlot (.type "int") op.info.2 = pure true) (hdec : wpAny (model prog w) A (tryMethod (.int i t) (PySem.dunder op.info.2) (.ref b)) (fun r s' => r = none ∧ s' = s) E s)
    (h : wpAny (model prog w) A (call (.ref f) [.ref b, .int i t]) (CmpBack Q) E s) : wpAny (model prog w) A (binaryOp op (.int i t) (.ref b)) Q E s := by
  have X := X₀.keeps F.keep
  obtain ⟨cd, rest, hcd, hm⟩ := ksp_first hc
  rcases hi : op.info with ⟨sym, nm'⟩
  rw [hi] at hs hr hfi hdec
  dsimp only at hs hr hfi hdec
  have one := ksp_try X I hr hf h
  obtain ⟨hh, g, d, tt, os⟩ := s
  have L1 : Looks (model prog w) hh (typeOf (.int i t)) (.type "int") := Looks.of_pure rfl
  have L2 : Looks (model prog w) hh (typeOf (.ref b)) (.ref C) := I.type
  have L3 : Looks (model prog w) hh (fillsNumberSlot (.type "int") nm') true := Looks.of_pure hfi
  have L4 : Looks (model prog w) hh (fillsNumberSlot (.ref C) nm') true := fills_K X hcd hm hs
  have L5 : Looks (model prog w) hh (isSubtype (.ref C) (.type "int")) false := looks_subIn X hsub
  have L7 : Looks (model prog w) hh (numberSlotInPython (.type "int") nm') false := Looks.of_pure rfl
  have hne : (Value.type "int" == Value.ref C) = false := Bool.eq_false_iff.mpr fun q => by cases beq_iff_eq.mp q
  simp only [binaryOp, hi]
  refine wpAny_holding (wpAny_bind ?_)
  unfold binaryOp1
  refine wpAny_bind (L1.at (wpAny_bind (L2.at (wpAny_bind (L3.at ?_)))))
  simp only [hne, Bool.false_eq_true, if_false]
  ksp_lk
  refine wpAny_mono hdec (fun r s' hr' => ?_) fun _ _ e => e
  obtain ⟨rfl, rfl⟩ := hr'
  ksp_lk
  refine wpAny_mono one (fun r s' hr' => ?_) fun _ _ e => e
  obtain ⟨v, rfl, hq⟩ := hr'
  ksp_lk
  exact hq
/-- != of two instances of a class with an own ==, object's != -/
theorem gw_ne {x y : Addr} {oy : Obj} {oyd : Option Obj} {Q : Value → Shared → Prop} (hu : A.units + 1 < cLine) (Fr0 : Fr h₀ L s.heap m) (X₀ : K.In h₀) (I : InstAt s.heap x ox C od) (J : InstAt s.heap y oy C oyd)
    (hs : findIn K (.ref C) "__eq__" = some (some (.ref f))) (hf : isFn K (.ref f) = true) (hne : findIn K (.ref C) "__ne__" = some (some (.builtin "object.__ne__"))) (hob : subIn K (.ref C) (.type "object") = some true)
    (h : wpAny (model prog w) A.in1 (call (.ref f) [.ref x, .ref y]) (fun v s' => ∃ b, v = .bool b ∧ Q (.bool (!b)) s') E s) : wpAny (model prog w) A (richCompare .NotEq (.ref x) (.ref y)) Q E s := by
  have X := X₀.keeps Fr0.keep
  have body : wpAny (model prog w) A.in1 (Builtin.«object.__ne__» ⟨[.ref x, .ref y], []⟩) (fun fin s' => ∃ b, fin = .done (.ret (.bool (!b))) ∧ Q (.bool (!b)) s') E s := by
    unfold Builtin.«object.__ne__»
    repeat (first
      | with_reducible refine wpAny_cRoomFor (by show A.in1.units < cLine; exact hu) ?_
      | (refine wpAny_bind (m := callSpecialIfBound? (.ref x) (Str.ofString "__eq__") [.ref y])
          (ifBound_K X I hs hf (wpAny_mono h (fun r s' hr => by
            obtain ⟨b, rfl, hq⟩ := hr
            repeat (first | exact ⟨b, rfl, hq⟩ | exact wpAny_truthy_bool (wpAny_pure ⟨b, rfl, hq⟩) | (refine wpAny_bind (m := truthy (.bool _)) (wpAny_truthy_bool ?_)) | wp_step)) fun _ _ e => e)))
      | wp_step)
  have hbind : ∀ self : Value, bindSpecial (.builtin "object.__ne__") self = pure (.builtin "object.__ne__", [self]) := fun self => F.slot_object_ne.bind self
  have call1 : wpAny (model prog w) A (call (.builtin "object.__ne__") [.ref x, .ref y]) (fun v s' => ∃ b, v = .bool (!b) ∧ Q (.bool (!b)) s') E s := by
    refine wpAny_call (codeAny_call_builtin F.slot_object_ne.plain F.cmpEntry_ne ?_)
    simp only [checkBuiltinCall, F.cmpKind_ne, F.cmpSplit_ne]
    refine wpAny_bind ?_
    unfold isInstance
    have hx : s.heap.get? x = some ox := I.at_
    have hc : ox.cls = .ref C := I.cls
    refine wpAny_bind (wpAny_bind (wpAny_loadPart hx (wpAny_pure ?_)))
    rw [hc]
    refine (looks_subIn X hob).here ?_
    have fin : ∀ s' : Shared, s' = s → wpAny (model prog w) A.in1 (Builtin.«object.__ne__» ⟨[.ref x, .ref y], []⟩) (fun fin s' => match fin with | .done f => wants (fun v s' => ∃ b, v = .bool (!b) ∧ Q (.bool (!b)) s') E (.ok f) s' | .again c' => c'.quiet = true ∧ codeAny (model prog w) A c' (wants (fun v s' => ∃ b, v = .bool (!b) ∧ Q (.bool (!b)) s') E) s') (fun e s' => wants (fun v s' => ∃ b, v = .bool (!b) ∧ Q (.bool (!b)) s') E (.error e) s') s' := fun s' e => by
      subst e
      refine wpAny_mono body (fun r s2 hr => ?_) fun _ _ z => z
      obtain ⟨b, rfl, hq⟩ := hr
      exact ⟨b, rfl, hq⟩
    have ha := F.cmpArgs_ne (.ref x) (.ref y)
    show wpAny _ _ (if (!true) = true then _ else _) _ _ _
    rw [if_neg (by decide)]
    cases hsig : Manifest.signature? "object.__ne__" with
    | none => exact wpAny_pure (fin s rfl)
    | some sig =>
      simp only [argsOk, hsig] at ha
      have h2 : Bind.checkArgs "object.__ne__" sig ⟨[.ref x, .ref y], []⟩ = pure () := ha
      show wpAny _ _ (Bind.checkArgs "object.__ne__" sig ⟨[.ref x, .ref y], []⟩) _ _ _
      rw [h2]
      exact wpAny_pure (fin s rfl)
  have try1 : wpAny (model prog w) A (tryCompare (.ref x) "__ne__" (.ref y)) (fun r s' => ∃ b, r = some (.bool (!b)) ∧ Q (.bool (!b)) s') E s := by
    unfold tryCompare
    simp only [callSpecialIfBound?, bindSpecialIfBound?]
    refine wpAny_bind (wpAny_holding (wpAny_bind (wpAny_bind (wpAny_bind (I.type.here ((looks_findIn X hne).here ?_))))))
    simp only [hbind]
    refine wpAny_bind (wpAny_askSetting (wpAny_ite ?_))
    have fin : wpAny (model prog w) A (call (.builtin "object.__ne__") ([.ref x] ++ [.ref y]) >>= fun v => pure (some v)) (fun r s' => wpAny (model prog w) A (match r with | some .notImplemented => pure none | none => pure none | some v => pure (some v)) (fun r s' => ∃ b, r = some (.bool (!b)) ∧ Q (.bool (!b)) s') E s') E s :=
      wpAny_bind (wpAny_mono call1 (fun v s' ⟨b, e, hq⟩ => by subst e; exact wpAny_pure (wpAny_pure ⟨b, rfl, hq⟩)) fun _ _ z => z)
    split
    · exact wpAny_bind (wpAny_pure (wpAny_pure fin))
    · exact wpAny_tryCatch (wpAny_bind (wpAny_pure (wpAny_pure fin)))
  unfold richCompare
  simp only [oneThing_ref]
  refine wpAny_holding (wpAny_bind (wpAny_cRoomFor (Nat.lt_of_succ_lt hu) ?_))
  rw [cmpInfo_NotEq]
  dsimp only
  refine wpAny_bind (I.type.here (wpAny_bind (J.type.here ?_)))
  rw [show (Value.ref C != Value.ref C) = false from by simp]
  simp only [Bool.false_eq_true, if_false]
  refine wpAny_bind (wpAny_pure ?_)
  simp only [Bool.false_eq_true, if_false]
  refine wpAny_bind (wpAny_mono try1 (fun r s' hr => ?_) fun _ _ e => e)
  obtain ⟨b, rfl, hq⟩ := hr
  first | exact wpAny_pure hq | exact wpAny_pure (wpAny_pure hq)
end
end PySem.W
set_option maxHeartbeats 4000000
namespace Gw
open PySem PySem.Spec PyProof.Rows L2

/-! ### own operators on the layer -/
section
variable {X : Cx} {k : Nat} {C f f0 : Addr} {fd : FuncData} {ps : List Str} {sp : Sp} {E' : XK} {op : Operator}
theorem pass00 : Passes CX0 X E' := fun _ _ _ _ _ _ _ h => h.elim
def InsV (C : Addr) (v : V) (H : Hp) : Prop := ∃ a dx fs, v = .ref a ∧ H a = some (.ins C dx fs)
theorem cmpBack_of {pins : List (Addr × Obj)} {σ : L2.St} {Q : VK} {u : Value} {s' : Shared} (h : EP X pins σ Q u s') : PySem.W.CmpBack (EP X pins σ Q) u s' := by
  obtain ⟨v, H', I, r, q⟩ := h
  have h : EP X pins σ Q u s' := ⟨v, H', I, r, q⟩
  cases u with
  | notImplemented =>
    cases v with
    | non => cases (show Value.notImplemented = Value.none from r)
    | bl b => cases (show Value.notImplemented = Value.bool b from r)
    | int i => obtain ⟨t, e⟩ := (show ∃ t, Value.notImplemented = Value.int i t from r); cases e
    | str x => obtain ⟨t, e⟩ := (show ∃ t, Value.notImplemented = Value.str x t from r); cases e
    | byt b => obtain ⟨t, e⟩ := (show ∃ t, Value.notImplemented = Value.bytes b t from r); cases e
    | flt b => obtain ⟨t, e⟩ := (show ∃ t, Value.notImplemented = Value.float b t from r); cases e
    | ref a => cases (show Value.notImplemented = Value.ref a from r)
    | ty n => cases (show Value.notImplemented = Value.type n from r)
  | _ => exact h
structure OwnB (K : PySem.W.Frag) (C f : Addr) (op : Operator) : Prop where
  sf : PySem.W.selfFirst K C = true
  at_ : PySem.W.findIn K (.ref C) (PySem.dunder op.info.2) = some (some (.ref f))
  fn : PySem.W.isFn K (.ref f) = true
/-- .. with ints at either side -/
structure OwnI (K : PySem.W.Frag) (C f g : Addr) (op : Operator) : Prop extends OwnB K C f op where
  rat : PySem.W.findIn K (.ref C) (dunderR op.info.2) = some (some (.ref g))
  gn : PySem.W.isFn K (.ref g) = true
  i1 : ∃ fo, PySem.W.findIn K (.type "int") (PySem.dunder op.info.2) = some fo
  i2 : ∃ ro, PySem.W.findIn K (.type "int") (dunderR op.info.2) = some ro
  s1 : PySem.W.subIn K (.type "int") (.ref C) = some false
  s2 : PySem.W.subIn K (.ref C) (.type "int") = some false
def rOwn (C : Addr) (sp : Sp) (E' : XK) : R2 := fun x y H Q => InsV C x H ∧ InsV C y H ∧ sp [x, y] H Q E'
def rOwnI (C : Addr) (sp : Sp) (E' : XK) : R2 := fun x y H Q => InsV C x H ∧ (∃ i, y = .int i) ∧ sp [x, y] H Q E'
def rIOwn (C : Addr) (sp : Sp) (E' : XK) : R2 := fun x y H Q => (∃ i, x = .int i) ∧ InsV C y H ∧ sp [y, x] H Q E'
theorem ins_inst {pins : List (Addr × Obj)} {σ : L2.St} {H : Hp} {s : Shared} (I : Inv X pins σ H s) {a dx : Addr} {fs : List (Str × V)} (e : H a = some (.ins C dx fs)) : ∃ ox od, PySem.W.InstAt s.heap a ox C od := by
  obtain ⟨mA, J, _⟩ := ins_get I.hok e
  obtain ⟨od, J, _⟩ := J.look
  exact ⟨_, _, J⟩
theorem op_own (O : OwnB X.K C f op) (F : FnOk X.prog X.w X.K X.mg X.base CX0 k f fd ps sp) (hr : Room k X.A) (hb : Binds X.K fd ps []) : OpR X (binaryOp op) (rOwn C sp E') := by
  intro pins s σ H x y v u Q I rx ry h
  obtain ⟨⟨a, dx, fs, rfl, ea⟩, ⟨b, dy, gs, rfl, eb⟩, h⟩ := h
  cases rx
  cases ry
  obtain ⟨_, _, J⟩ := ins_inst I ea
  obtain ⟨_, _, J'⟩ := ins_inst I eb
  obtain ⟨m, hF⟩ := I.fr
  refine PySem.W.binop_K hF I.ok.mod.kin J J'.type O.sf O.at_ O.fn ?_
  exact wpAny_mono (run_fn (us := [.ref a, .ref b]) (vs := [.ref a, .ref b]) (ds := []) (dvs := []) F hr hb .nil (pass00 (E' := E')) I (.cons rfl (.cons rfl .nil)) (by rw [List.append_nil]; exact h)) (fun _ _ q => cmpBack_of q) fun _ _ q => q
theorem op_ownI {g : Addr} (O : OwnI X.K C f g op) (F : FnOk X.prog X.w X.K X.mg X.base CX0 k f fd ps sp) (hr : Room k X.A) (hb : Binds X.K fd ps []) : OpR X (binaryOp op) (rOwnI C sp E') := by
  intro pins s σ H x y v u Q I rx ry h
  obtain ⟨⟨a, dx, fs, rfl, ea⟩, ⟨i, rfl⟩, h⟩ := h
  cases rx
  obtain ⟨t, rfl⟩ := ry
  obtain ⟨_, _, J⟩ := ins_inst I ea
  obtain ⟨m, hF⟩ := I.fr
  obtain ⟨fo, h1⟩ := O.i1
  obtain ⟨ro, h2⟩ := O.i2
  refine PySem.W.ksp_binT hF I.ok.mod.kin J rfl O.sf O.at_ O.fn O.rat (.inr ⟨_, rfl⟩) h1 h2 O.s1 ?_
  exact wpAny_mono (run_fn (us := [.ref a, .int i t]) (vs := [.ref a, .int i]) (ds := []) (dvs := []) F hr hb .nil (pass00 (E' := E')) I (.cons rfl (.cons ⟨_, rfl⟩ .nil)) (by rw [List.append_nil]; exact h)) (fun _ _ q => cmpBack_of q) fun _ _ q => q
/-- the int's own operator declines -/
def Decl (op : Operator) : Prop := fillsNumberSlot (.type "int") op.info.2 = pure true ∧ ∀ (prog : Program) (w : World) (A : Around) (E : Value → Shared → Prop) (s : Shared) (i : Int) (t : Tok) (b C : Addr) (ox : Obj) (od : Option Obj), PySem.W.InstAt s.heap b ox C od →
  wpAny (model prog w) A (tryMethod (.int i t) (PySem.dunder op.info.2) (.ref b)) (fun r s' => r = none ∧ s' = s) E s
theorem inst_plain {h : Heap} {b C : Addr} {ox : Obj} {od : Option Obj} (J : PySem.W.InstAt h b ox C od) : ∃ dx, h.get? b = some { cls := .ref C, dict := dx, data := ox.data, slots := ox.slots } := by
  have h1 := J.at_
  have h2 := J.cls
  obtain ⟨c, d, dt, sl⟩ := ox
  simp only at h2
  subst h2
  exact ⟨_, h1⟩
theorem op_Iown {g : Addr} (O : OwnI X.K C f g op) (D : ∀ (A : Around) (E : Value → Shared → Prop) (s : Shared) (i : Int) (t : Tok) (b dx : Addr), s.heap.get? b = some (PySem.W.instObj C dx) →
      wpAny (model X.prog X.w) A (tryMethod (.int i t) (PySem.dunder op.info.2) (.ref b)) (fun r s' => r = none ∧ s' = s) E s) (hfi : fillsNumberSlot (.type "int") op.info.2 = pure true)
    (F : FnOk X.prog X.w X.K X.mg X.base CX0 k g fd ps sp) (hr : Room k X.A) (hb : Binds X.K fd ps []) : OpR X (binaryOp op) (rIOwn C sp E') := by
  intro pins s σ H x y v u Q I rx ry h
  obtain ⟨⟨i, rfl⟩, ⟨a, dx, fs, rfl, ea⟩, h⟩ := h
  cases ry
  obtain ⟨t, rfl⟩ := rx
  obtain ⟨_, _, J⟩ := ins_inst I ea
  obtain ⟨mA, OM, _⟩ := ins_get I.hok ea
  obtain ⟨m, hF⟩ := I.fr
  refine PySem.W.gw_rbin hF I.ok.mod.kin J O.sf O.at_ O.rat O.gn O.s2 hfi (D _ _ _ _ _ _ _ OM.obj) ?_
  exact wpAny_mono (run_fn (us := [.ref a, .int i t]) (vs := [.ref a, .int i]) (ds := []) (dvs := []) F hr hb .nil (pass00 (E' := E')) I (.cons rfl (.cons ⟨_, rfl⟩ .nil)) (by rw [List.append_nil]; exact h)) (fun _ _ q => cmpBack_of q) fun _ _ q => q
theorem decl_sub {prog : Program} {w : World} (A : Around) (E : Value → Shared → Prop) (s : Shared) (i : Int) (t : Tok) (b dx : Addr) (h : s.heap.get? b = some (PySem.W.instObj C dx)) :
    wpAny (model prog w) A (tryMethod (.int i t) (PySem.dunder (Operator.Sub).info.2) (.ref b)) (fun r s' => r = none ∧ s' = s) E s := by
  show wpAny (model prog w) A (tryMethod (.int i t) (PySem.dunder "sub") (.ref b)) (fun r s' => r = none ∧ s' = s) E s
  have m := gw_int_sub_inst i t b C dx
  have a := F.args_int_sub_2 (.int i t) (.ref b)
  have e := F.entry_int_sub
  have q1 := typeIs_int s i t
  have q3 := @wpAny_tryMethod_declines (model prog w) A E s (.int i t) (.ref b) "int" (dunder "sub") "int.__sub__" (fun r s' => r = none ∧ s' = s) q1 F.slot_int_sub
  refine q3 ?_
  have z := @call_meets prog w A E s
  have z2 := z (self := .int i t) (rest := [.ref b]) (Q := fun v s' => v = .notImplemented ∧ none = (none : Option Value) ∧ s' = s) F.slot_int_sub q1 e a m
  exact z2 ⟨h, rfl, rfl, rfl⟩
theorem decl_mul {prog : Program} {w : World} (A : Around) (E : Value → Shared → Prop) (s : Shared) (i : Int) (t : Tok) (b dx : Addr) (h : s.heap.get? b = some (PySem.W.instObj C dx)) :
    wpAny (model prog w) A (tryMethod (.int i t) (PySem.dunder (Operator.Mult).info.2) (.ref b)) (fun r s' => r = none ∧ s' = s) E s := by
  show wpAny (model prog w) A (tryMethod (.int i t) (PySem.dunder "mul") (.ref b)) (fun r s' => r = none ∧ s' = s) E s
  have m := gw_int_mul_inst i t b C dx
  have a := F.args_int_mul_2 (.int i t) (.ref b)
  have e := F.entry_int_mul
  have q1 := typeIs_int s i t
  have q3 := @wpAny_tryMethod_declines (model prog w) A E s (.int i t) (.ref b) "int" (dunder "mul") "int.__mul__" (fun r s' => r = none ∧ s' = s) q1 F.slot_int_mul
  refine q3 ?_
  have z := @call_meets prog w A E s
  have z2 := z (self := .int i t) (rest := [.ref b]) (Q := fun v s' => v = .notImplemented ∧ none = (none : Option Value) ∧ s' = s) F.slot_int_mul q1 e a m
  exact z2 ⟨h, rfl, rfl, rfl⟩
theorem decl_add {prog : Program} {w : World} (A : Around) (E : Value → Shared → Prop) (s : Shared) (i : Int) (t : Tok) (b dx : Addr) (h : s.heap.get? b = some (PySem.W.instObj C dx)) :
    wpAny (model prog w) A (tryMethod (.int i t) (PySem.dunder (Operator.Add).info.2) (.ref b)) (fun r s' => r = none ∧ s' = s) E s := by
  show wpAny (model prog w) A (tryMethod (.int i t) (PySem.dunder "add") (.ref b)) (fun r s' => r = none ∧ s' = s) E s
  have m := gw_int_add_inst i t b C dx
  have a := F.args_int_add_2 (.int i t) (.ref b)
  have e := F.entry_int_add
  have q1 := typeIs_int s i t
  have q3 := @wpAny_tryMethod_declines (model prog w) A E s (.int i t) (.ref b) "int" (dunder "add") "int.__add__" (fun r s' => r = none ∧ s' = s) q1 F.slot_int_add
  refine q3 ?_
  have z := @call_meets prog w A E s
  have z2 := z (self := .int i t) (rest := [.ref b]) (Q := fun v s' => v = .notImplemented ∧ none = (none : Option Value) ∧ s' = s) F.slot_int_add q1 e a m
  exact z2 ⟨h, rfl, rfl, rfl⟩
/-- x == y of two instances, by the own == -/
theorem op_eqOwn (hs : PySem.W.findIn X.K (.ref C) "__eq__" = some (some (.ref f))) (hf : PySem.W.isFn X.K (.ref f) = true) (F : FnOk X.prog X.w X.K X.mg X.base CX0 k f fd ps sp) (hr : Room k X.A) (hb : Binds X.K fd ps []) : OpR X (compareOp .Eq) (rOwn C sp E') := by
  intro pins s σ H x y v u Q I rx ry h
  obtain ⟨⟨a, dx, fs, rfl, ea⟩, ⟨b, dy, gs, rfl, eb⟩, h⟩ := h
  cases rx
  cases ry
  obtain ⟨_, _, J⟩ := ins_inst I ea
  obtain ⟨_, _, J'⟩ := ins_inst I eb
  obtain ⟨m, hF⟩ := I.fr
  show wpAny (model X.prog X.w) X.A (richCompare .Eq _ _) (EP X pins σ Q) X.xe s
  refine PySem.W.cmp_K (op := .Eq) (tb := .ref C) hr.units0 hF I.ok.mod.kin J J'.type (by simp [PySem.W.notFirst]) hs hf ?_
  exact wpAny_mono (run_fn (us := [.ref a, .ref b]) (vs := [.ref a, .ref b]) (ds := []) (dvs := []) F hr hb .nil (pass00 (E' := E')) I (.cons rfl (.cons rfl .nil)) (by rw [List.append_nil]; exact h)) (fun _ _ q => cmpBack_of q) fun _ _ q => q
def rOwnN (C : Addr) (sp : Sp) (E' : XK) : R2 := fun x y H Q => InsV C x H ∧ InsV C y H ∧ sp [x, y] H (fun v H' => ∃ b, v = .bl b ∧ Q (.bl (!b)) H') E'
theorem op_neOwn (hs : PySem.W.findIn X.K (.ref C) "__eq__" = some (some (.ref f))) (hf : PySem.W.isFn X.K (.ref f) = true) (hne : PySem.W.findIn X.K (.ref C) "__ne__" = some (some (.builtin "object.__ne__"))) (hob : PySem.W.subIn X.K (.ref C) (.type "object") = some true)
    (F : FnOk X.prog X.w X.K X.mg X.base CX0 k f fd ps sp) (hr : Room (k + 1) X.A) (hb : Binds X.K fd ps []) : OpR X (compareOp .NotEq) (rOwnN C sp E') := by
  intro pins s σ H x y v u Q I rx ry h
  obtain ⟨⟨a, dx, fs, rfl, ea⟩, ⟨b, dy, gs, rfl, eb⟩, h⟩ := h
  cases rx
  cases ry
  obtain ⟨_, _, J⟩ := ins_inst I ea
  obtain ⟨_, _, J'⟩ := ins_inst I eb
  obtain ⟨m, hF⟩ := I.fr
  show wpAny (model X.prog X.w) X.A (richCompare .NotEq _ _) (EP X pins σ Q) X.xe s
  refine PySem.W.gw_ne (by have := hr.un; omega) hF I.ok.mod.kin J J' hs hf hne hob ?_
  have r2 : Vals [V.ref a, V.ref b] [Value.ref a, Value.ref b] := .cons rfl (.cons rfl .nil)
  have hl : ([Value.ref a, Value.ref b] ++ []).length = ps.length := by
    rw [← F.len _ _ _ _ h]
    rfl
  refine wpAny_call (codeAny_mono (F.run X.A.in1 X.stack s H ⟨[.ref a, .ref b], []⟩ [.ref a, .ref b] [.ref a, .ref b] _ E' hr.in1 I.env0.in1 (by
    have := hb s [.ref a, .ref b] I.kIn hl
    rwa [List.append_nil] at this) r2 h) fun r s' hq => ?_)
  cases r with
  | error er => exact False.elim hq
  | ok fl =>
    cases fl with
    | ret w =>
      obtain ⟨z, H', I', rz, b', ez, q⟩ := I.after hq
      subst ez
      cases (show w = Value.bool b' from rz)
      exact ⟨b', rfl, .bl (!b'), H', I', rfl, q⟩
    | next => exact False.elim hq
    | brk => exact False.elim hq
    | cont => exact False.elim hq
end
end Gw
set_option maxHeartbeats 4000000
namespace Gw
open PySem PySem.Spec PyProof.Rows L2

/-! ### the kinds of Ratios -/
def kTop : Str := "own_top"
def kBot : Str := "own_bottom"
def qFs (q : Rat) : List (Str × V) := [(kTop, .int q.num), (kBot, .int (q.den : Int))]
def IsQ (C : Addr) (q : Rat) (v : V) (F : Hp) : Prop := ∃ a dx, v = .ref a ∧ F a = some (.ins C dx (qFs q))
def IsNm (C : Addr) (q : Rat) (v : V) (F : Hp) : Prop := IsQ C q v F ∨ ∃ i : Int, q = (i : Rat) ∧ v = .int i
def IsC (c v : V) (_ : Hp) : Prop := v = c
theorem IsQ.mono {C : Addr} {q : Rat} {v : V} {F F' : Hp} (h : IsQ C q v F) (e : Ex F F') : IsQ C q v F' := let ⟨a, dx, h1, h2⟩ := h; ⟨a, dx, h1, e _ _ h2⟩
theorem IsQ.up {C : Addr} {q : Rat} {v : V} {F : Hp} (h : IsQ C q v F) : Up (IsQ C q) v F := fun _ e => h.mono e
theorem IsNm.mono {C : Addr} {q : Rat} {v : V} {F F' : Hp} (h : IsNm C q v F) (e : Ex F F') : IsNm C q v F' := h.elim (fun h => .inl (h.mono e)) .inr
theorem IsNm.up {C : Addr} {q : Rat} {v : V} {F : Hp} (h : IsNm C q v F) : Up (IsNm C q) v F := fun _ e => h.mono e
theorem IsQ.insV {C : Addr} {q : Rat} {v : V} {F H : Hp} (h : IsQ C q v F) (e : Ex F H) : InsV C v H := let ⟨a, dx, h1, h2⟩ := h; ⟨a, dx, _, h1, e _ _ h2⟩
theorem isQ_nm {C : Addr} {q : Rat} : ∀ v F, IsQ C q v F → IsNm C q v F := fun _ _ h => .inl h
theorem isI_nm {C : Addr} {i : Int} : ∀ v F, IsI i v F → IsNm C (i : Rat) v F := fun _ _ h => .inr ⟨i, rfl, h⟩
/-- what of the text class Ratio has -/
structure RatF (K : PySem.W.Frag) (C : Addr) : Prop where
  cls : Cls K C
  nt : NoAttr K C kTop
  nb : NoAttr K C kBot
  kc : PySem.W.findIn K (.ref C) "__class__" = some (some (.builtin "object.__class__"))
  kg : PySem.W.specialIn K (.builtin "object.__class__") "__get__" = some (some (.builtin "getset_descriptor.__get__"))
  kt : PySem.W.takesIn K (.builtin "object.__class__") = some true
  km : PySem.W.mroIn K C (.type "object") = some true
  oo : PySem.W.kitOne K (.ref C) (.ref C) = some true
  io : PySem.W.kitOne K (.type "int") (.ref C) = some false
  oi : PySem.W.kitOne K (.ref C) (.type "int") = some false
section
variable {X : Cx} {E : En} {G : List Sl} {e o a b c : Expr} {R R' Ra Rb Rz : V → Hp → Prop} {pos : Pos} {C : Addr} {q r : Rat} {pp : Option Addr} {E' : XK} {K : PySem.W.Frag}
/-! ### fields -/
theorem je_top (T : RatF X.K C) (p : PE X e (tE E G (IsQ C q))) (hb : attributeBase e kTop X.env (eval e X.env) = eval e X.env := by rfl) : PE X (.Attribute e kTop pos) (tE E G (IsI q.num)) :=
  PE_imp (pe_fld p hb) fun σ H Q ⟨F, S, k⟩ => ⟨F, S, fun v F1 H1 g1 u1 => by
    obtain ⟨a, dx, rfl, ha⟩ := u1.here
    exact ⟨a, C, dx, _, .int q.num, rfl, g1.s _ _ ha, T.cls, T.nt, rfl, k _ F1 H1 g1 fun _ _ => rfl⟩⟩
theorem je_bot (T : RatF X.K C) (p : PE X e (tE E G (IsQ C q))) (hb : attributeBase e kBot X.env (eval e X.env) = eval e X.env := by rfl) : PE X (.Attribute e kBot pos) (tE E G (IsI (q.den : Int))) :=
  PE_imp (pe_fld p hb) fun σ H Q ⟨F, S, k⟩ => ⟨F, S, fun v F1 H1 g1 u1 => by
    obtain ⟨a, dx, rfl, ha⟩ := u1.here
    exact ⟨a, C, dx, _, .int (q.den : Int), rfl, g1.s _ _ ha, T.cls, T.nb, rfl, k _ F1 H1 g1 fun _ _ => rfl⟩⟩
/-! ### isinstance -/
theorem tyx_int {i : Int} {H : Hp} : TyX K H (.int i) (.type "int") := .base (.int i)
theorem tyx_Q (T : RatF K C) {v : V} {F H : Hp} (h : IsQ C q v F) (e : Ex F H) : TyX K H v (.ref C) := by
  obtain ⟨a, dx, rfl, ha⟩ := h
  exact .base (.ins (e _ _ ha) T.cls T.kc T.kg T.kt T.km)
/-- isinstance(x, c) of one class -/
theorem rc_isi {b : Bool} {t u : Value} {c : V} (hc : ClsV c u) (hk : PySem.W.kitOne K t u = some b) (hty : ∀ v F H, Ex F H → R v F → TyX K H v t) : RC pp (rIsi K) [R, IsC c] (IsB b) := fun vs F H Q ok a k => by
  cases a with
  | cons r t =>
    cases t with
    | cons r2 t2 =>
      cases t2
      have e : _ = c := r2.here
      subst e
      exact ⟨_, _, _, _, b, rfl, hc, hty _ F H ok.s r.here, hk, k _ F H ok.gr fun F' _ => rfl⟩
/-- isinstance(x, (c, d)), of a list or tuple -/
theorem rc_isiT {b : Bool} {t : Value} {cs : List V} {us : List Value} (hc : Paired ClsV cs us) (hk : PySem.W.kitAny K t us = some b) (hty : ∀ v F H, Ex F H → R v F → TyX K H v t) (hl : cs.map IsC = Rz' := by rfl) : RC pp (rIsiT K) [R, TupOf (Args Rz')] (IsB b) := fun vs F H Q ok a k => by
  subst hl
  cases a with
  | cons r t =>
    cases t with
    | cons r2 t2 =>
      cases t2
      obtain ⟨p, ws, rfl, hp, uw⟩ := r2.here
      have e : ws = cs := by
        have all : ∀ {cs ws : List V}, Paired (fun R v => Up R v F) (cs.map IsC) ws → ws = cs := by
          intro cs
          induction cs with
          | nil => intro ws h; cases h; rfl
          | cons c cs ih =>
            intro ws h
            cases h with
            | cons h1 h2 => rw [ih h2, show _ = c from h1.here]
        exact all uw.here
      subst e
      exact ⟨_, p, ws, _, us, b, rfl, ok.s _ _ hp, hc, hty _ F H ok.s r.here, hk, k _ F H ok.gr fun F' _ => rfl⟩
/-! ### own operators, kinds -/
variable {pre : Rat × Rat → Prop} {Rf : Rat × Rat → V → Hp → Prop}
abbrev qA (C : Addr) : Rat × Rat → List (V → Hp → Prop) := fun w => [IsQ C w.1, IsNm C w.2]
theorem rop_own (hp : pre (q, r)) : ROp pp (rOwn C (Pr (qA C) pre Rf) E') (IsQ C q) (IsQ C r) (Rf (q, r)) := fun x y F H Q ok u1 u2 k =>
  ⟨u1.here.insV ok.s, u2.here.insV ok.s, F, (q, r), ok.none, .cons u1 (.cons (u2.imp fun F h => .inl h) .nil), hp, fun v F' H' g u => k v F' H' (g.lift ok) u⟩
theorem rop_ownI {i : Int} (hp : pre (q, (i : Rat))) : ROp pp (rOwnI C (Pr (qA C) pre Rf) E') (IsQ C q) (IsI i) (Rf (q, (i : Rat))) := fun x y F H Q ok u1 u2 k =>
  ⟨u1.here.insV ok.s, ⟨i, u2.here⟩, F, (q, (i : Rat)), ok.none, .cons u1 (.cons (u2.imp fun F h => .inr ⟨i, rfl, h⟩) .nil), hp, fun v F' H' g u => k v F' H' (g.lift ok) u⟩
theorem rop_Iown {i : Int} (hp : pre (q, (i : Rat))) : ROp pp (rIOwn C (Pr (qA C) pre Rf) E') (IsI i) (IsQ C q) (Rf (q, (i : Rat))) := fun x y F H Q ok u1 u2 k =>
  ⟨⟨i, u1.here⟩, u2.here.insV ok.s, F, (q, (i : Rat)), ok.none, .cons u2 (.cons (u1.imp fun F h => .inr ⟨i, rfl, h⟩) .nil), hp, fun v F' H' g u => k v F' H' (g.lift ok) u⟩
abbrev qE (C : Addr) : Rat × Rat → List (V → Hp → Prop) := fun w => [IsQ C w.1, IsQ C w.2]
theorem rop_eqQ : ROp pp (rOwn C (Pr (qE C) (fun _ => True) fun w => IsB (decide (w.1 = w.2))) E') (IsQ C q) (IsQ C r) (IsB (decide (q = r))) := fun x y F H Q ok u1 u2 k =>
  ⟨u1.here.insV ok.s, u2.here.insV ok.s, F, (q, r), ok.none, .cons u1 (.cons u2 .nil), trivial, fun v F' H' g u => k v F' H' (g.lift ok) u⟩
theorem rop_neQ : ROp pp (rOwnN C (Pr (qE C) (fun _ => True) fun w => IsB (decide (w.1 = w.2))) E') (IsQ C q) (IsQ C r) (IsB (!decide (q = r))) := fun x y F H Q ok u1 u2 k =>
  ⟨u1.here.insV ok.s, u2.here.insV ok.s, F, (q, r), ok.none, .cons u1 (.cons u2 .nil), trivial, fun v F' H' g u => ⟨_, u.here, k _ F' H' (g.lift ok) fun _ _ => rfl⟩⟩
/-- an operation by two roads -/
theorem opR_or {f : Value → Value → Sem Value} {r1 r2 : R2} (h1 : OpR X f r1) (h2 : OpR X f r2) : OpR X f (fun x y H Q => r1 x y H Q ∨ r2 x y H Q) := fun pins s σ H x y v u Q I rx ry h => h.elim (h1 pins s σ H x y v u Q I rx ry) (h2 pins s σ H x y v u Q I rx ry)
/-! ### properties, methods, classmethods -/
variable {ι : Type} {Rs : ι → List (V → Hp → Prop)} {pr : ι → Prop} {Rg : ι → V → Hp → Prop}
theorem je_prop (w : ι) (p : PE X e (tProp C (Pr Rs pr Rg) [] E' (tE E G (IsQ C q)))) (hw : Rs w = [IsQ C q]) (hp : pr w) : PE X e (tE E G (Rg w)) := PE_imp p fun σ H Q ⟨F, S, k⟩ => ⟨F, S, fun v F1 H1 g1 u1 => by
  have u2 := u1
  obtain ⟨a, dx, rfl, ha⟩ := u1.here
  exact ⟨a, dx, _, rfl, g1.s _ _ ha, F1, w, g1.ok.none, by rw [hw]; exact .cons u2 .nil, hp, fun v F' H' g u => k v F' H' (g1.trans (g.lift g1.ok)) u⟩⟩
theorem lookup_qFs {m : Str} (h1 : (m == kTop) = false) (h2 : (m == kBot) = false) : (qFs q).lookup m = none := by
  unfold qFs
  simp [List.lookup, h1, h2]
theorem je_meth {Rl : List (V → Hp → Prop)} {m : Str} (w : ι) (p : PE X e (tMeth C m (Pr Rs pr Rg) [] E' (tE E G (IsQ C q)) (tA E G Rl))) (hw : Rs w = IsQ C q :: Rl) (hp : pr w) (h1 : (m == kTop) = false := by decide) (h2 : (m == kBot) = false := by decide) : PE X e (tE E G (Rg w)) := PE_imp p fun σ H Q ⟨F, S, k⟩ => ⟨F, S, fun v F1 H1 g1 u1 => by
  have u2 := u1
  obtain ⟨a, dx, rfl, ha⟩ := u1.here
  refine ⟨a, dx, _, rfl, g1.s _ _ ha, lookup_qFs h1 h2, F1, S.gr g1, fun vs F2 H2 g2 u3 => ?_⟩
  have g := g1.trans g2
  exact ⟨F2, w, g.ok.none, by rw [hw, List.append_nil]; exact .cons (u2.mono g2.f) u3, hp, fun v F' H' g3 u => k v F' H' (g.trans (g3.lift g.ok)) u⟩⟩
theorem je_cmeth {Rl : List (V → Hp → Prop)} (w : ι) (p : PE X e (ClX.tCMeth C (Pr Rs pr Rg) E' (tC (.ref C)) (tA E G Rl))) (hw : Rs w = IsC (.ref C) :: Rl) (hp : pr w) : PE X e (tE E G (Rg w)) := PE_imp p fun σ H Q ⟨F, S, k⟩ =>
  ⟨rfl, F, S, fun vs F2 H2 g u3 => ⟨F2, w, g.ok.none, by rw [hw]; exact .cons (fun _ _ => rfl) u3, hp, fun v F' H' g3 u => k v F' H' (g.trans (g3.lift g.ok)) u⟩⟩
/-! ### making a Ratio -/
def FinI (H0 : Hp) (x C dx : Addr) (fs : List (Str × V)) (H' : Hp) : Prop := H' x = some (.ins C dx fs) ∧ ∀ a o, a ≠ x → H0 a = some o → H' a = some o
def Ht (b : Int) : Prop := b ≠ 0 ∧ b.natAbs.log2 < 9000
def InitSp (C : Addr) : Sp := fun vs H Q _ => ∃ (F : Hp) (x dx : Addr) (t b : Int), vs = [.ref x, .int t, .int b] ∧ Ok none F H ∧ F x = none ∧ H x = some (.ins C dx []) ∧ Ht b ∧ ∀ H', FinI H x C dx (qFs (Rat.divInt t b)) H' → Q .non H'
theorem je_make {dvs : List V} {Rl : List (V → Hp → Prop)} {t b : Int} (p : PE X e (tMake C (InitSp C) dvs E' (tA E G Rl))) (hv : ∀ vs F, Args Rl vs F → vs ++ dvs = [.int t, .int b]) (hb : Ht b) : PE X e (tE E G (IsQ C (Rat.divInt t b))) := PE_imp p fun σ H Q ⟨F, S, k⟩ => ⟨F, S, fun vs F1 H1 g1 a x dx hx hdx hne => by
  have n1 : F1 x = none := g1.s.back hx
  have n2 : F1 dx = none := g1.s.back hdx
  refine ⟨F1, x, dx, t, b, by rw [hv vs F1 a], ⟨fun y o h => ?_, fun _ h => nomatch h⟩, n1, upd_same, hb, fun H' fin => ⟨rfl, ?_⟩⟩
  · rw [upd_ne (ne_of_none h n1), upd_ne (ne_of_none h n2)]
    exact g1.s _ _ h
  · have keep : ∀ y o, H1 y = some o → H' y = some o := fun y o h => fin.2 y o (ne_of_none h hx) (by rw [upd_ne (ne_of_none h hx), upd_ne (ne_of_none h hdx)]; exact h)
    refine k (.ref x) (upd F1 x (.ins C dx (qFs (Rat.divInt t b)))) H' ⟨g1.f.trans (Ex.new n1), fun y o h => ?_, fun y o h hp => keep y o (g1.k y o h hp), fun y o h => ?_, fun y hy => ?_⟩ (IsQ.up ⟨x, dx, rfl, upd_same⟩)
    · by_cases z : y = x
      · subst z
        rw [upd_same] at h
        cases h
        exact fin.1
      · rw [upd_ne z] at h
        exact keep y o (g1.s _ _ h)
    · by_cases z : y = x
      · rw [z]
        exact .inr (g1.back hx)
      · rw [upd_ne z] at h
        exact g1.n y o h
    · obtain ⟨q1, i, j, q2, q3⟩ := g1.p y hy
      have z : y ≠ x := ne_of_none q2 hx
      exact ⟨by rw [upd_ne z]; exact q1, i, j, keep y _ q2, q3⟩⟩
theorem je_make2 {t b : Int} (p : PE X e (tMake C (InitSp C) [] E' (tA E G [IsI t, IsI b]))) (hb : Ht b) : PE X e (tE E G (IsQ C (Rat.divInt t b))) := je_make p (fun vs F a => by
  cases a with
  | cons r t =>
    cases t with
    | cons r2 t2 =>
      cases t2
      rw [show _ = V.int _ from r.here, show _ = V.int _ from r2.here]
      rfl) hb
theorem je_make1 {t : Int} (p : PE X e (tMake C (InitSp C) [.int 1] E' (tA E G [IsI t]))) : PE X e (tE E G (IsQ C (t : Rat))) := by
  have h := je_make (t := t) (b := 1) p (fun vs F a => by
    cases a with
    | cons r t =>
      cases t
      rw [show _ = V.int _ from r.here]
      rfl) ⟨by decide, by decide⟩
  have e : Rat.divInt t 1 = (t : Rat) := (Rat.mk_eq_divInt (num := t) (den := 1) (nz := by decide) (c := by simp)).symm
  rw [e] at h
  exact h
end
/-! ### __init__'s body -/
section
variable {X : Cx} {E : En} {G : List Sl} {st : Stmt} {rest : List Stmt} {C x dx : Addr} {fs : List (Str × V)}
def tSI (E : En) (C x dx : Addr) (fs : List (Str × V)) (G : List Sl) : TS := fun D σ H => ∃ F, Sat E G σ F H ∧ E.H x = some (.ins C dx []) ∧ E.F x = none ∧ E.pp = none ∧ ∀ σ' H', FinI E.H x C dx fs H' → D.nx σ' H'
theorem js_initS {G1 : List Sl} (p : PS X st (tS E G (fun _ _ _ => False) (· = G1))) (q : PSs X rest (tSI E C x dx fs G1)) : PSs X (st :: rest) (tSI E C x dx fs G) := PSs_imp (pss_cons p q) fun D σ H ⟨F, S, h1, h2, h3, kn⟩ =>
  ⟨F, S, fun G1' σ1 F1 H1 n1 S1 e1 => by
    subst n1
    exact ⟨F1, S1, h1, h2, h3, kn⟩, fun _ _ _ _ h => h.elim⟩
def Plain (G : List Sl) : Prop := ∀ (i : Nat) (s : Sl), G[i]? = some s → s = .un ∨ ∃ R, s = .fz R
theorem Sat.reE {σ : L2.St} {F H H' : Hp} (S : Sat E G σ F H) (hG : Plain G) (e : Ex F H') : Sat ⟨F, H', none⟩ G σ F H' where
  len := S.len
  bs := ⟨Ex.refl F, e, fun _ _ h _ => h, fun _ _ h => .inl h, fun _ h => nomatch h⟩
  p0 := fun _ h => nomatch h
  fz := S.fz
  mt := fun i R h => by
    rcases hG i _ h with z | ⟨_, z⟩ <;> cases z
  ap := fun i j R S p _ h _ => by
    rcases hG i _ h with z | ⟨_, z⟩ <;> cases z
  pt := fun i h => by
    rcases hG i _ h with z | ⟨_, z⟩ <;> cases z
theorem js_initE {t b : Int} {e1 e2 o1 o2 : Expr} {pa pb p1 p2 : Pos} (T : RatF X.K C) (hG : Plain G) (h0 : G[0]? = some (.fz (IsC (.ref x)))) (q1 : PE X e1 (tE E G (IsI t))) (q2 : ∀ E, PE X e2 (tE E G (IsI b))) (v1 : PE X o1 (tVar 0)) (v2 : PE X o2 (tVar 0))
    (s1 : swapsWith e1 (some (.Attribute o1 kTop pa)) p1.line X.env = pure false := by rfl) (s2 : swapsWith e2 (some (.Attribute o2 kBot pb)) p2.line X.env = pure false := by rfl) :
    PSs X [.Assign [.Attribute o1 kTop pa] e1 p1, .Assign [.Attribute o2 kBot pb] e2 p2] (tSI E C x dx [(kTop, .int t), (kBot, .int b)] G) := by
  refine PSs_imp (pss_cons (ps_fld v1 q1 s1) (pss_one (ps_fld v2 (PE_any q2) s2))) fun D σ H ⟨F, S, h1, h2, h3, kn⟩ => ?_
  refine ⟨F, S, fun v F1 H1 g1 u1 => ?_⟩
  have S1 := S.gr g1
  obtain ⟨w, ew, uw⟩ := S1.fz 0 _ h0
  have e0 : w = .ref x := uw.here
  subst e0
  have hx : ∀ {F' H' : Hp}, Bs E F' H' → F' x = none ∧ H' x = some (.ins C dx []) := fun {F' H'} bs => by
    refine ⟨?_, bs.k x _ h1 (by rw [h3]; exact fun z => nomatch z)⟩
    cases z : F' x with
    | none => rfl
    | some o =>
      rcases bs.n x o z with q | q
      · rw [h2] at q; cases q
      · rw [h1] at q; cases q
  obtain ⟨n1, m1⟩ := hx S1.bs
  refine ⟨.ref x, ew, x, C, dx, [], rfl, m1, T.cls, T.nt, by decide, ?_⟩
  have ev : v = .int t := u1.here
  subst ev
  have ex : Ex F1 (upd H1 x (.ins C dx (putF kTop (.int t) []))) := fun a o h => by
    rw [upd_ne (ne_of_none h n1)]
    exact S1.bs.s a o h
  have S2 := S1.reE hG ex
  refine ⟨_, F1, S2, fun v2 F2 H2 g2 u2 => ?_⟩
  have ev : v2 = .int b := u2.here
  subst ev
  have m2 : H2 x = some (.ins C dx [(kTop, .int t)]) := g2.k x _ (by rw [upd_same]; rfl) (fun z => nomatch z)
  refine ⟨.ref x, ew, x, C, dx, _, rfl, m2, T.cls, T.nb, by simp, ?_⟩
  refine kn _ _ ⟨by rw [upd_same]; rfl, fun a o ha h => ?_⟩
  rw [upd_ne ha]
  exact g2.k a o (by rw [upd_ne ha]; exact S1.bs.k a o h (by rw [h3]; exact fun z => nomatch z)) (fun z => nomatch z)
end
section
variable {P : Program} {w : World} {K : PySem.W.Frag} {mg : Str → Option Value} {base : Heap} {x qual : Str} {params : Arguments} {body : List Stmt} {scope : Scope} {dvs : List V} {kws : List (Str × V)} {f C : Addr} {fd : FuncData} {N ps : List Str} {k : Nat}
theorem fn_init (Fd : FunD K x qual params body scope dvs kws f fd) (S : FnScope N ps scope) (hl : ps.length = 3)
    (hb : ∀ (X : Cx) (E : En) (x dx : Addr) (t b : Int), (∃ cdv A outer s H E', X = cxOf CX0 P w K mg base N qual scope f cdv A outer s H E' ∧ Room k X.A) → Ht b → PSs X body (tSI E C x dx (qFs (Rat.divInt t b)) (G0 [IsC (.ref x), IsI t, IsI b] N.length))) :
    FnOk P w K mg base CX0 (k + 1) f fd ps (InitSp C) := by
  refine Fd.ok S (fun vs H Q E ⟨F, x, dx, t, b, e, _⟩ => by rw [e, hl]; rfl) (fun cdv A outer s H vs Q E hr ⟨F, x, dx, t, b, e, ok, n, m, hb', kq⟩ => ?_)
  subst e
  exact ⟨_, hb _ ⟨F, H, none⟩ x dx t b ⟨cdv, A, outer, s, H, E, rfl, hr⟩ hb', F, sat_start ok (.cons (fun _ _ => rfl) (.cons (fun _ _ => rfl) (.cons (fun _ _ => rfl) .nil))), m, n, rfl, fun σ' H' fin => kq H' fin⟩
end
/-! ### a slot of two kinds -/
theorem js_or {X : Cx} {E : En} {G : List Sl} {R1 R2 : V → Hp → Prop} {i : Nat} {st : List Stmt} {Rt : V → Hp → Hp → Prop} {N : List Sl → Prop} (h : G[i]? = some (.fz (fun v F => R1 v F ∨ R2 v F))) (h1 : ∀ v F F', R1 v F → Ex F F' → R1 v F') (h2 : ∀ v F F', R2 v F → Ex F F' → R2 v F')
    (k1 : PSs X st (tS E (G.set i (.fz R1)) Rt N)) (k2 : PSs X st (tS E (G.set i (.fz R2)) Rt N)) : PSs X st (tS E G Rt N) := by
  have k := js_open (α := Bool) (X := X) (E := E) (Rt := Rt) (N := N) (st := st) (P := fun _ => True) (R := fun b : Bool => if b = true then R1 else R2) (i := i) (G := G.set i (.fz (Som (fun _ => True) fun b : Bool => if b = true then R1 else R2)))
    (List.getElem?_set_self (List.getElem?_eq_some_iff.mp h).1) (fun b v F F' r e => by
      cases b with
      | true => exact h1 v F F' r e
      | false => exact h2 v F F' r e) (fun b _ => by
      rw [List.set_set]
      cases b with
      | true => exact k1
      | false => exact k2)
  refine js_weak ?_ k
  have all : ∀ (G : List Sl) (i : Nat), G[i]? = some (.fz (fun v F => R1 v F ∨ R2 v F)) → Paired Le G (G.set i (.fz (Som (fun _ => True) fun b : Bool => if b = true then R1 else R2))) := by
    intro G
    induction G with
    | nil => intro i h; simp at h
    | cons s G ih =>
      intro i h
      cases i with
      | zero =>
        simp at h
        subst h
        refine .cons (.fz fun v F q => q.elim (fun q => ⟨true, trivial, q⟩) fun q => ⟨false, trivial, q⟩) ?_
        clear ih
        induction G with
        | nil => exact .nil
        | cons s G ih => exact .cons (Le.rfl' s) ih
      | succ i => exact .cons (Le.rfl' s) (ih i (by simpa using h))
  exact all G i h
end Gw
set_option maxHeartbeats 4000000
namespace Gw
open PySem PySem.Spec PyProof.Rows L2

/-! ### defs by their names -/
def Kn (P : Program) (w : World) (K : PySem.W.Frag) (mg : Str → Option Value) (base : Heap) (x : Str) (k : Nat) (ps : List Str) (sp : Sp) : Prop :=
  ∃ (f : Addr) (fd : FuncData), mg x = some (.ref f) ∧ PySem.W.keepIn K (.ref f) = true ∧ Binds K fd ps [] ∧ FnOk P w K mg base CX0 k f fd ps sp
/-- natural numbers as ints -/
abbrev IsU (n : Nat) : V → Hp → Prop := IsI (n : Int)
section
variable {X : Cx} {E : En} {G : List Sl} {e a b c : Expr} {es : List Expr} {R R' Ra Rb Rz : V → Hp → Prop} {p pos apos : Pos} {ι : Type} {Rs : ι → List (V → Hp → Prop)} {pre : ι → Prop} {x : Str} {f : Addr} {fd : FuncData} {k : Nat} {ps : List Str}
variable {Rf : ι → V → Hp → Prop} {Rm : ι → List V → Hp → Prop}
theorem jc (T : Kn X.prog X.w X.K X.mg X.base x k ps (Pr Rs pre Rf)) (hr : Room k X.A) (w : ι) (ha : PA X (e :: es) (tA E G (Rs w))) (hp : pre w) (hR : Rf w = R := by exact rfl) (hg : Gl X x := by rfl) (hdb : (x == ("__debug__" : Str)) = false := by decide)
    (he : starEach (e :: es) X.env = (false, eval e X.env) :: starEach es X.env := by rfl) (hpl : (backTo pos (starEach es X.env)).any (·.1) = false := by rfl) : PE X (.Call (.Name x p) (e :: es) [] pos) (tE E G R) := by
  subst hR
  obtain ⟨f, fd, g, kp, b, ok⟩ := T
  exact je_f (E' := E0) w (pe_call ok hr hg g kp b .nil pass0 ha hdb he hpl) hp
theorem jcM {Rm' : List V → Hp → Prop} (T : Kn X.prog X.w X.K X.mg X.base x k ps (PrM Rs pre Rm)) (hr : Room k X.A) (w : ι) (ha : PA X (e :: es) (tA E G (Rs w))) (hp : pre w) (hR : Rm w = Rm' := by exact rfl) (hg : Gl X x := by rfl) (hdb : (x == ("__debug__" : Str)) = false := by decide)
    (he : starEach (e :: es) X.env = (false, eval e X.env) :: starEach es X.env := by rfl) (hpl : (backTo pos (starEach es X.env)).any (·.1) = false := by rfl) : PE X (.Call (.Name x p) (e :: es) [] pos) (tM E G Rm') := by
  subst hR
  obtain ⟨f, fd, g, kp, b, ok⟩ := T
  exact jm_f (E' := E0) w (pe_call ok hr hg g kp b .nil pass0 ha hdb he hpl) hp
theorem jcP (T : Kn X.prog X.w X.K X.mg X.base x k ps (PrP Rs pre Rf)) (hr : Room k X.A) (hpot : ∃ i : Nat, G[i]? = some .pot) (w : ι) (ha : PA X (e :: es) (tAP E G (Rs w))) (hp : pre w) (hR : Rf w = R := by exact rfl) (hg : Gl X x := by rfl) (hdb : (x == ("__debug__" : Str)) = false := by decide)
    (he : starEach (e :: es) X.env = (false, eval e X.env) :: starEach es X.env := by rfl) (hpl : (backTo pos (starEach es X.env)).any (·.1) = false := by rfl) : PE X (.Call (.Name x p) (e :: es) [] pos) (tE E G R) := by
  subst hR
  obtain ⟨f, fd, g, kp, b, ok⟩ := T
  exact je_fP (E' := E0) w hpot (pe_call ok hr hg g kp b .nil pass0 ha hdb he hpl) hp
theorem jcPM {Rm' : List V → Hp → Prop} (T : Kn X.prog X.w X.K X.mg X.base x k ps (PrPM Rs pre Rm)) (hr : Room k X.A) (hpot : ∃ i : Nat, G[i]? = some .pot) (w : ι) (ha : PA X (e :: es) (tAP E G (Rs w))) (hp : pre w) (hR : Rm w = Rm' := by exact rfl) (hg : Gl X x := by rfl) (hdb : (x == ("__debug__" : Str)) = false := by decide)
    (he : starEach (e :: es) X.env = (false, eval e X.env) :: starEach es X.env := by rfl) (hpl : (backTo pos (starEach es X.env)).any (·.1) = false := by rfl) : PE X (.Call (.Name x p) (e :: es) [] pos) (tM E G Rm') := by
  subst hR
  obtain ⟨f, fd, g, kp, b, ok⟩ := T
  exact jm_fP (E' := E0) w hpot (pe_call ok hr hg g kp b .nil pass0 ha hdb he hpl) hp
/-! ### names, constants -/
theorem pv (i : Nat) (hN : X.N[i]? = some x := by exact rfl) (hv : Vis X.env.scope x := by first | exact .inl rfl | exact .inr (.inl rfl) | exact .inr (.inr rfl)) (hd : (x == ("__debug__" : Str)) = false := by decide) (hcd : (x == ("__classdict__" : Str)) = false := by decide) : PE X (.Name x pos) (tVar i) := pe_var hN hv hd hcd
theorem jv (i : Nat) (h : G[i]? = some (.fz R) := by exact rfl) (hN : X.N[i]? = some x := by exact rfl) (hv : Vis X.env.scope x := by first | exact .inl rfl | exact .inr (.inl rfl) | exact .inr (.inr rfl)) (hd : (x == ("__debug__" : Str)) = false := by decide)
    (hcd : (x == ("__classdict__" : Str)) = false := by decide) : PE X (.Name x pos) (tE E G R) := je_var (pe_var hN hv hd hcd) h
theorem jI {i : Int} {j : Nat} : PE X (.Constant (.int i) j pos) (tE E G (IsI i)) := je_c pe_int fun _ => rfl
theorem jNon {j : Nat} : PE X (.Constant .none j pos) (tE E G IsN) := je_c pe_non fun _ => rfl
theorem jBl {b : Bool} {j : Nat} : PE X (.Constant (.bool b) j pos) (tE E G (IsB b)) := je_c pe_bl fun _ => rfl
theorem jglob {v : V} {u : Value} (hm : X.mg x = some u) (r : RelV v u) (hg : Gl X x := by rfl) (hd : (x == ("__debug__" : Str)) = false := by decide) : PE X (.Name x pos) (tE E G (IsC v)) := je_c (pe_glob hg hm r hd) fun _ => rfl
theorem jgI {i : Int} {t : Tok} (hm : X.mg x = some (.int i t)) (hg : Gl X x := by rfl) (hd : (x == ("__debug__" : Str)) = false := by decide) : PE X (.Name x pos) (tE E G (IsI i)) := je_c (pe_glob (v := .int i) hg hm ⟨_, rfl⟩ hd) fun _ => rfl
theorem jty {n : String} (hm : X.mg x = none) (hv : bootBuiltins x = some (.type n)) (hg : Gl X x := by rfl) (hn : x ≠ "__name__" := by decide) (hd : (x == ("__debug__" : Str)) = false := by decide) : PE X (.Name x pos) (tE E G (IsC (.ty n))) := je_c (pe_bltn (v := .ty n) hg hm hv rfl hn hd) fun _ => rfl
/-! ### built-in calls -/
theorem jbB {id : String} {r : List V → Hp → VK → Prop} {Ss : List (V → Hp → Prop)} (hc : CallR X (.builtin id) r) (hm : X.mg x = none) (hv : bootBuiltins x = some (.builtin id)) (ha : PA X (e :: es) (tA E G Ss)) (h : RC E.pp r Ss Rz) (hg : Gl X x := by rfl) (hn : x ≠ "__name__" := by decide) (hdb : (x == ("__debug__" : Str)) = false := by decide)
    (he : starEach (e :: es) X.env = (false, eval e X.env) :: starEach es X.env := by rfl) (hpl : (backTo pos (starEach es X.env)).any (·.1) = false := by rfl) : PE X (.Call (.Name x p) (e :: es) [] pos) (tE E G Rz) := je_cb (pe_callB hc hg hm hv ha hn hdb he hpl) h
theorem jbT {id : String} {r : List V → Hp → VK → Prop} {Ss : List (V → Hp → Prop)} (hc : CallR X (.type id) r) (hm : X.mg x = none) (hv : bootBuiltins x = some (.type id)) (ha : PA X (e :: es) (tA E G Ss)) (h : RC E.pp r Ss Rz) (hg : Gl X x := by rfl) (hn : x ≠ "__name__" := by decide) (hdb : (x == ("__debug__" : Str)) = false := by decide)
    (he : starEach (e :: es) X.env = (false, eval e X.env) :: starEach es X.env := by rfl) (hpl : (backTo pos (starEach es X.env)).any (·.1) = false := by rfl) : PE X (.Call (.Name x p) (e :: es) [] pos) (tE E G Rz) := je_cb (pe_callTy hc hg hm hv ha hn hdb he hpl) h
theorem jbF {id : String} {r : List V → Hp → VK → Prop} {Ss : List (V → Hp → Prop)} (hc : CallR X (.builtin id) r) (hm : X.mg x = some (.builtin id)) (ha : PA X (e :: es) (tA E G Ss)) (h : RC E.pp r Ss Rz) (hg : Gl X x := by rfl) (hdb : (x == ("__debug__" : Str)) = false := by decide)
    (he : starEach (e :: es) X.env = (false, eval e X.env) :: starEach es X.env := by rfl) (hpl : (backTo pos (starEach es X.env)).any (·.1) = false := by rfl) : PE X (.Call (.Name x p) (e :: es) [] pos) (tE E G Rz) := je_cb (pe_callBfun hc hg hm ha hdb he hpl) h
/-! ### subscripts -/
theorem rop_ixB {α : Type} [Inhabited α] {K : PySem.W.Frag} {pp : Option Addr} {Rx : α → V → Hp → Prop} {xs : List α} {j : Nat} (h : j < xs.length) : ROp pp (rIxL K) (IsL Rx xs) (IsI (j : Int)) (Rx xs[j]!) := rop_ixL (j := j) (x := xs[j]!) (by rw [getElem!_pos xs j h, List.getElem?_eq_getElem h])
/-! ### targets -/
theorem gN (i : Nat) (hN : X.N.Nodup) (hi : X.N[i]? = some x := by exact rfl) (hx : Loc X.env.scope x := by first | exact .inl rfl | exact .inr rfl) (hf : X.fn x = true ∨ X.env.scope.names.lookup x = some .local := by first | exact .inl rfl | exact .inr rfl) : PG X (.Name x pos) (gName i) := pg_name hN hi hx hf
theorem jg1 (i : Nat) (hN : X.N.Nodup) (hi : X.N[i]? = some x := by exact rfl) (hx : Loc X.env.scope x := by first | exact .inl rfl | exact .inr rfl) (hf : X.fn x = true ∨ X.env.scope.names.lookup x = some .local := by first | exact .inl rfl | exact .inr rfl) : PG X (.Name x pos) (tG E R [i] (fun G => G.set i (.fz R))) := jg_name (pg_name hN hi hx hf)
theorem jg2 (i j : Nat) {y : Str} {p2 : Pos} {kk : Nat} (hN : X.N.Nodup) (hc : X.calm = true := by rfl) (hi : X.N[i]? = some x := by exact rfl) (hj : X.N[j]? = some y := by exact rfl) (hx : Loc X.env.scope x := by first | exact .inl rfl | exact .inr rfl) (hf : X.fn x = true ∨ X.env.scope.names.lookup x = some .local := by first | exact .inl rfl | exact .inr rfl)
    (hx2 : Loc X.env.scope y := by first | exact .inl rfl | exact .inr rfl) (hf2 : X.fn y = true ∨ X.env.scope.names.lookup y = some .local := by first | exact .inl rfl | exact .inr rfl) :
    PG X (.Tuple [.Name x p, .Name y p2] kk pos) (tG E (IsTp [Ra, Rb]) [i, j] (fun G => (G.set i (.fz Ra)).set j (.fz Rb))) := jg_tup2 (pg_tup hc (pgs_cons (pg_name hN hi hx hf) (pgs_cons (pg_name hN hj hx2 hf2) pgs_nil)))
theorem jg3 (i j l : Nat) {y z : Str} {p2 p3 : Pos} {kk : Nat} {Rc : V → Hp → Prop} (hN : X.N.Nodup) (hc : X.calm = true := by rfl) (hi : X.N[i]? = some x := by exact rfl) (hj : X.N[j]? = some y := by exact rfl) (hl : X.N[l]? = some z := by exact rfl) (hx : Loc X.env.scope x := by first | exact .inl rfl | exact .inr rfl) (hf : X.fn x = true ∨ X.env.scope.names.lookup x = some .local := by first | exact .inl rfl | exact .inr rfl)
    (hx2 : Loc X.env.scope y := by first | exact .inl rfl | exact .inr rfl) (hf2 : X.fn y = true ∨ X.env.scope.names.lookup y = some .local := by first | exact .inl rfl | exact .inr rfl) (hx3 : Loc X.env.scope z := by first | exact .inl rfl | exact .inr rfl) (hf3 : X.fn z = true ∨ X.env.scope.names.lookup z = some .local := by first | exact .inl rfl | exact .inr rfl) :
    PG X (.Tuple [.Name x p, .Name y p2, .Name z p3] kk pos) (tG E (IsTp [Ra, Rb, Rc]) [i, j, l] (fun G => ((G.set i (.fz Ra)).set j (.fz Rb)).set l (.fz Rc))) := jg_tup3 (pg_tup hc (pgs_cons (pg_name hN hi hx hf) (pgs_cons (pg_name hN hj hx2 hf2) (pgs_cons (pg_name hN hl hx3 hf3) pgs_nil))))
/-! ### what is walked, by natural numbers -/
def enumN {α : Type} (xs : List α) : List (Nat × α) := xs.zipIdx.map fun p => (p.2, p.1)
theorem enumN_get {α : Type} {xs : List α} {i : Nat} {q : Nat × α} (h : (enumN xs)[i]? = some q) : q.1 = i ∧ xs[i]? = some q.2 := by
  unfold enumN at h
  rw [List.getElem?_map, List.getElem?_zipIdx] at h
  cases e : xs[i]? with
  | none => rw [e] at h; cases h
  | some x =>
    rw [e] at h
    cases h
    exact ⟨by simp, rfl⟩
theorem enumN_len {α : Type} (xs : List α) : (enumN xs).length = xs.length := by simp [enumN]
theorem jiM {α β : Type} {Rx : α → V → Hp → Prop} {Ry : β → V → Hp → Prop} {xs : List α} {ys : List β} {tg : Expr} (h : PI X tg e (tI E G Rx xs)) (hl : xs.length = ys.length) (hc : ∀ (i : Nat) (x : α) (y : β), xs[i]? = some x → ys[i]? = some y → ∀ v F, Rx x v F → Ry y v F) : PI X tg e (tI E G Ry ys) := PI_imp h fun σ H Rj ⟨F, S, k⟩ =>
  ⟨F, S, fun J F' H' g src => k J F' H' g ⟨fun i F1 H1 hi => src.go i F1 H1 (by omega), fun F1 H1 => by rw [← hl]; exact src.stop F1 H1, fun i y F1 H1 v H2 hy e1 o z => by
    have hi : i < xs.length := by rw [hl]; exact (List.getElem?_eq_some_iff.mp hy).1
    obtain ⟨F2, g2, u⟩ := src.yld i xs[i] F1 H1 v H2 (List.getElem?_eq_getElem hi) e1 o z
    exact ⟨F2, g2, u.imp (fun F q => hc i xs[i] y (List.getElem?_eq_getElem hi) hy v F q)⟩⟩⟩
theorem ji_rangeN {n : Nat} {tg : Expr} (hn : n < 2 ^ 62) (p : PI X tg e (iRng1 (tA E G [IsI n]))) : PI X tg e (tI E G IsU (List.range n)) := jiM (ji_range hn p) (by simp [upTo]) fun i x y h1 h2 v F q => by
  obtain ⟨rfl, hi⟩ := upTo_get h1
  rw [List.getElem?_range hi] at h2
  cases h2
  exact q
theorem isTp_imp {Rs Rs' : List (V → Hp → Prop)} (h : Paired (fun R R' => ∀ v F, R v F → R' v F) Rs Rs') : ∀ v F, IsTp Rs v F → IsTp Rs' v F := fun v F ⟨a, vs, e, ha, u⟩ => ⟨a, vs, e, ha, u.imp fun F q => by
  have all : ∀ {Rs Rs' : List (V → Hp → Prop)} {vs : List V}, Paired (fun R R' => ∀ v F, R v F → R' v F) Rs Rs' → Paired (fun R v => Up R v F) Rs vs → Paired (fun R v => Up R v F) Rs' vs := by
    intro Rs Rs' vs h
    induction h generalizing vs with
    | nil => intro q; exact q
    | cons r t ih =>
      intro q
      cases q with
      | cons r2 t2 => exact .cons (r2.imp fun F z => r _ F z) (ih t2)
  exact all h q⟩
theorem ji_enumN {α : Type} {Rx : α → V → Hp → Prop} {xs : List α} {K : PySem.W.Frag} {tg : Expr} (p : PI X tg e (iEnum K (tA E G [IsL Rx xs]))) : PI X tg e (tI E G (fun q : Nat × α => IsTp [IsU q.1, Rx q.2]) (enumN xs)) := jiM (ji_enum p) (by rw [enumL_len, enumN_len]) fun i q r h1 h2 v F z => by
  obtain ⟨a1, a2⟩ := enumL_get h1
  obtain ⟨b1, b2⟩ := enumN_get h2
  rw [a2] at b2
  have e2 : q.2 = r.2 := Option.some.inj b2
  have e1 : q.1 = (r.1 : Int) := by rw [a1, b1]
  rw [← e2]
  show IsTp [IsI (r.1 : Int), Rx q.2] v F
  rw [← e1]
  exact z
theorem mem_enumN {α : Type} {xs : List α} {q : Nat × α} (h : q ∈ enumN xs) : q.1 < xs.length ∧ xs[q.1]? = some q.2 := by
  obtain ⟨i, hi⟩ := List.getElem?_of_mem h
  obtain ⟨h1, h2⟩ := enumN_get hi
  subst h1
  exact ⟨(List.getElem?_eq_some_iff.mp h2).1, h2⟩
end
/-! ### comprehensions, also stored by one line -/
section
variable {X : Cx} {E : En} {G : List Sl} {pos : Pos} {α β : Type} {Rx : α → V → Hp → Prop} {xs : List α} {Ry : β → V → Hp → Prop} {tg iter elt : Expr} {ifs : List Expr} {scope : Scope} {own : List (Str × Nat)} {idx : List Nat} {f : α → List Sl → List Sl}
theorem js_setLc {i : Nat} {y : Str} {py spos : Pos} {Rt : V → Hp → Hp → Prop} (pr : α → Bool) (g : α → β)
    (hc : X.calm = true) (hN : X.N.Nodup) (hy : X.N[i]? = some y) (hyl : X.env.scope.names.lookup y = some .local) (hsw : swapsWith (.ListComp elt [⟨tg, iter, ifs, 0⟩] scope pos) (some (.Name y py)) spos.line X.env = pure true)
    (hi : PI X tg iter (tI E G Rx xs)) (ok : BlkOk X.N X.env.scope scope own) (hidx : ∀ k ∈ idx, k ∈ own.map (·.2))
    (hg : ∀ (s : Shared) (H : Hp) (C : Addr) (cl : List (Str × Addr)) (fp : List Addr) (x : α), PG (X.blk s H scope (compEnvC scope cl C X.env) fp) tg (tG E (Rx x) idx (f x)))
    (ht : ∀ (s : Shared) (H : Hp) (C : Addr) (cl : List (Str × Addr)) (fp : List Addr) (x : α), x ∈ xs → PTs (X.blk s H scope (compEnvC scope cl C X.env) fp) ifs (tT E (f x (wipeG G (own.map (·.2)))) (pr x)))
    (he : ∀ (s : Shared) (H : Hp) (C : Addr) (cl : List (Str × Addr)) (fp : List Addr) (x : α), x ∈ xs → pr x = true → PE (X.blk s H scope (compEnvC scope cl C X.env) fp) elt (tE E (f x (wipeG G (own.map (·.2)))) (Ry (g x))))
    (hz : xs.length < sizeLine) (hs : ∀ x, foldedSetIterable iter X.env x = pure x := by intro _; rfl) :
    PS X (.Assign [.Name y py] (.ListComp elt [⟨tg, iter, ifs, 0⟩] scope pos) spos) (tS E G Rt (· = G.set i (.mt (LsOf Ry ((xs.filter pr).map g))))) := by
  have P := ps_setLc (i := i) hc hN hy hyl hsw hi ok (g := fun v σ H Q => ∃ x, tG E (Rx x) idx (f x) v σ H Q) (tt := fun σ H Q => ∃ q : { x // x ∈ xs }, tT E (f q.1 (wipeG G (own.map (·.2)))) (pr q.1) σ H Q)
    (te := fun σ H Q => ∃ q : { x // x ∈ xs ∧ pr x = true }, tE E (f q.1 (wipeG G (own.map (·.2)))) (Ry (g q.1)) σ H Q)
    (fun s H C cl fp => ⟨fun pins s' σ H' v u Q I r ⟨x, h⟩ => (hg s H C cl fp x).run pins s' σ H' v u Q I r h⟩) (fun s H C cl fp => PTs_any fun q => ht s H C cl fp q.1 q.2) (fun s H C cl fp => PE_any fun q => he s H C cl fp q.1 q.2.1 q.2.2) hs
  refine js_setM (Rm := LsOf Ry ((xs.filter pr).map g)) (PS_imp P fun D σ H hw => ?_)
  revert hw
  show tM E G (LsOf Ry ((xs.filter pr).map g)) σ H (fun v H1 => gName i v σ H1 D.nx) → tLc _ _ _ _ _ σ H (fun v H1 => gName i v σ H1 D.nx)
  exact lc_read pr g hidx hz
end
/-! ### what is known of the class -/
section
variable (P : Program) (w : World) (K : PySem.W.Frag) (mg : Str → Option Value) (base : Heap) (C : Addr)
def Mkr (k : Nat) : Prop := mg "Ratio" = some (.ref C) ∧ ∃ (f : Addr) (fd : FuncData) (ds : List Value), Mk K C f ∧ FnOk P w K mg base CX0 k f fd ["self", "top", "bottom"] (InitSp C) ∧ Binds K fd ["self", "top", "bottom"] [] ∧ Vals [V.int 1] ds ∧ Binds K fd ["self", "top", "bottom"] ds
abbrev spq (C : Addr) (pre : Rat × Rat → Prop) (fn : Rat → Rat → Rat) : Sp := Pr (qA C) pre (fun w => IsQ C (fn w.1 w.2))
def Opr (op : Operator) (k : Nat) (pre : Rat × Rat → Prop) (fn : Rat → Rat → Rat) : Prop := ∃ (f g : Addr) (fd : FuncData), OwnI K C f g op ∧ FnOk P w K mg base CX0 k f fd ["self", "other"] (spq C pre fn) ∧ Binds K fd ["self", "other"] []
def OprR (op : Operator) (k : Nat) (pre : Rat × Rat → Prop) (fn : Rat → Rat → Rat) : Prop := ∃ (f g : Addr) (fd : FuncData), OwnI K C f g op ∧ FnOk P w K mg base CX0 k g fd ["self", "other"] (spq C pre fn) ∧ Binds K fd ["self", "other"] []
abbrev spEqQ (C : Addr) : Sp := Pr (qE C) (fun _ => True) (fun w => IsB (decide (w.1 = w.2)))
def EqK (k : Nat) : Prop := ∃ (f : Addr) (fd : FuncData), PySem.W.findIn K (.ref C) "__eq__" = some (some (.ref f)) ∧ PySem.W.isFn K (.ref f) = true ∧ PySem.W.findIn K (.ref C) "__ne__" = some (some (.builtin "object.__ne__")) ∧ PySem.W.subIn K (.ref C) (.type "object") = some true ∧
  FnOk P w K mg base CX0 k f fd ["self", "other"] (spEqQ C) ∧ Binds K fd ["self", "other"] []
def PropK (x : Str) (k : Nat) (sp : Sp) : Prop := ∃ (p g : Addr) (fd : FuncData), Cls K C ∧ PropOf K C x p g ∧ FnOk P w K mg base CX0 k g fd ["self"] sp ∧ Binds K fd ["self"] []
def MethK (m : Str) (k : Nat) (ps : List Str) (sp : Sp) : Prop := ∃ (f : Addr) (fd : FuncData), Cls K C ∧ Meth K C m f ∧ FnOk P w K mg base CX0 k f fd ps sp ∧ Binds K fd ps []
def CmK (m : Str) (k : Nat) (sp : Sp) : Prop := ∃ (mc : Value) (p g : Addr), ClX.CRead K C mc ∧ ClX.CMet K C mc m p g ∧ FnR P w K mg base CX0 k g sp
end
section
variable {X : Cx} {E : En} {G : List Sl} {e o a b c : Expr} {es : List Expr} {p pos apos : Pos} {C : Addr} {k : Nat} {q r : Rat} {pre : Rat × Rat → Prop} {fn : Rat → Rat → Rat} {op : Operator} {R : V → Hp → Prop}
theorem jmk1 {t : Int} (T : Mkr X.prog X.w X.K X.mg X.base C k) (hr : Room (k + 1) X.A) (ha : PA X [e] (tA E G [IsI t])) (hg : Gl X "Ratio" := by rfl) (he : starEach [e] X.env = (false, eval e X.env) :: starEach [] X.env := by rfl) : PE X (.Call (.Name "Ratio" p) [e] [] pos) (tE E G (IsQ C (t : Rat))) := by
  obtain ⟨g, f, fd, ds, M, ok, b0, hd, b1⟩ := T
  exact je_make1 (E' := E0) (pe_make M ok hr hg g b1 hd pass0 ha (by decide) he (by rfl))
theorem jmk2 {t u : Int} (T : Mkr X.prog X.w X.K X.mg X.base C k) (hr : Room (k + 1) X.A) (ha : PA X [e, o] (tA E G [IsI t, IsI u])) (hb : Ht u) (hg : Gl X "Ratio" := by rfl) (he : starEach [e, o] X.env = (false, eval e X.env) :: starEach [o] X.env := by rfl)
    (hpl : (backTo pos (starEach [o] X.env)).any (·.1) = false := by rfl) : PE X (.Call (.Name "Ratio" p) [e, o] [] pos) (tE E G (IsQ C (Rat.divInt t u))) := by
  obtain ⟨g, f, fd, ds, M, ok, b0, hd, b1⟩ := T
  exact je_make2 (E' := E0) (pe_make M ok hr hg g b0 .nil pass0 ha (by decide) he hpl) hb
theorem joQ (T : Opr X.prog X.w X.K X.mg X.base C op k pre fn) (hr : Room k X.A) (ha : PE X a (tE E G (IsQ C q))) (hb : PE X b (tE E G (IsQ C r))) (hp : pre (q, r)) (hR : IsQ C (fn q r) = R := by exact rfl) : PE X (.BinOp a op b pos) (tE E G R) := by
  subst hR
  obtain ⟨f, g, fd, O, ok, bd⟩ := T
  exact je_op (pe_op (op_own (E' := E0) O.toOwnB ok hr bd) ha hb) (rop_own (Rf := fun w => IsQ C (fn w.1 w.2)) hp)
theorem joQI {i : Int} (T : Opr X.prog X.w X.K X.mg X.base C op k pre fn) (hr : Room k X.A) (ha : PE X a (tE E G (IsQ C q))) (hb : PE X b (tE E G (IsI i))) (hp : pre (q, (i : Rat))) (hR : IsQ C (fn q (i : Rat)) = R := by exact rfl) : PE X (.BinOp a op b pos) (tE E G R) := by
  subst hR
  obtain ⟨f, g, fd, O, ok, bd⟩ := T
  exact je_op (pe_op (op_ownI (E' := E0) O ok hr bd) ha hb) (rop_ownI (Rf := fun w => IsQ C (fn w.1 w.2)) hp)
theorem joIQ_sub {i : Int} (T : OprR X.prog X.w X.K X.mg X.base C .Sub k pre fn) (hr : Room k X.A) (ha : PE X a (tE E G (IsI i))) (hb : PE X b (tE E G (IsQ C q))) (hp : pre (q, (i : Rat))) (hR : IsQ C (fn q (i : Rat)) = R := by exact rfl) : PE X (.BinOp a .Sub b pos) (tE E G R) := by
  subst hR
  obtain ⟨f, g, fd, O, ok, bd⟩ := T
  exact je_op (pe_op (op_Iown (E' := E0) O (fun A E s i t b dx h => decl_sub A E s i t b dx h) F.fills_int_sub ok hr bd) ha hb) (rop_Iown (Rf := fun w => IsQ C (fn w.1 w.2)) hp)
theorem joIQ_mul {i : Int} (T : OprR X.prog X.w X.K X.mg X.base C .Mult k pre fn) (hr : Room k X.A) (ha : PE X a (tE E G (IsI i))) (hb : PE X b (tE E G (IsQ C q))) (hp : pre (q, (i : Rat))) (hR : IsQ C (fn q (i : Rat)) = R := by exact rfl) : PE X (.BinOp a .Mult b pos) (tE E G R) := by
  subst hR
  obtain ⟨f, g, fd, O, ok, bd⟩ := T
  exact je_op (pe_op (op_Iown (E' := E0) O (fun A E s i t b dx h => decl_mul A E s i t b dx h) F.fills_int_mul ok hr bd) ha hb) (rop_Iown (Rf := fun w => IsQ C (fn w.1 w.2)) hp)
theorem joIQ_add {i : Int} (T : OprR X.prog X.w X.K X.mg X.base C .Add k pre fn) (hr : Room k X.A) (ha : PE X a (tE E G (IsI i))) (hb : PE X b (tE E G (IsQ C q))) (hp : pre (q, (i : Rat))) (hR : IsQ C (fn q (i : Rat)) = R := by exact rfl) : PE X (.BinOp a .Add b pos) (tE E G R) := by
  subst hR
  obtain ⟨f, g, fd, O, ok, bd⟩ := T
  exact je_op (pe_op (op_Iown (E' := E0) O (fun A E s i t b dx h => decl_add A E s i t b dx h) F.fills_int_add ok hr bd) ha hb) (rop_Iown (Rf := fun w => IsQ C (fn w.1 w.2)) hp)
theorem jeqQ (T : EqK X.prog X.w X.K X.mg X.base C k) (hr : Room k X.A) (ha : PE X a (tE E G (IsQ C q))) (hb : PE X b (tE E G (IsQ C r))) : PE X (.Compare a [.Eq] [b] pos) (tE E G (IsB (decide (q = r)))) := by
  obtain ⟨f, fd, h1, h2, h3, h4, ok, bd⟩ := T
  exact je_op (pe_cmpR (op_eqOwn (E' := E0) h1 h2 ok hr bd) ha hb (nomark _)) rop_eqQ
theorem jneQ (T : EqK X.prog X.w X.K X.mg X.base C k) (hr : Room (k + 1) X.A) (ha : PE X a (tE E G (IsQ C q))) (hb : PE X b (tE E G (IsQ C r))) : PT X (.Compare a [.NotEq] [b] pos) (tT E G (!decide (q = r))) := by
  obtain ⟨f, fd, h1, h2, h3, h4, ok, bd⟩ := T
  exact jt_cmp (pt_cmpR (op_neOwn (E' := E0) h1 h2 h3 h4 ok hr bd) ha hb (nomark _)) rop_neQ
theorem jteqQ (T : EqK X.prog X.w X.K X.mg X.base C k) (hr : Room k X.A) (ha : PE X a (tE E G (IsQ C q))) (hb : PE X b (tE E G (IsQ C r))) : PT X (.Compare a [.Eq] [b] pos) (tT E G (decide (q = r))) := by
  obtain ⟨f, fd, h1, h2, h3, h4, ok, bd⟩ := T
  exact jt_cmp (pt_cmpR (op_eqOwn (E' := E0) h1 h2 ok hr bd) ha hb (nomark _)) rop_eqQ
variable {ι : Type} {Rs : ι → List (V → Hp → Prop)} {pr : ι → Prop} {Rg : ι → V → Hp → Prop} {x m : Str} {ps : List Str}
theorem jprop (T : PropK X.prog X.w X.K X.mg X.base C x k (Pr Rs pr Rg)) (hr : Room (k + 1) X.A) (w : ι) (ha : PE X e (tE E G (IsQ C q))) (hw : Rs w = [IsQ C q] := by rfl) (hp : pr w) (hR : Rg w = R := by exact rfl) (hab : attributeBase e x X.env (eval e X.env) = eval e X.env := by rfl) : PE X (.Attribute e x pos) (tE E G R) := by
  subst hR
  obtain ⟨p, g, fd, c, h, ok, bd⟩ := T
  exact je_prop (E' := E0) w (pe_prop ha c h ok hr bd .nil (fun _ _ _ _ _ _ _ h => h.elim) hab) hw hp
theorem jmeth {Rl : List (V → Hp → Prop)} {pl : Sem Bool} (T : MethK X.prog X.w X.K X.mg X.base C m k ps (Pr Rs pr Rg)) (hr : Room k X.A) (w : ι) (ho : PE X o (tE E G (IsQ C q))) (ha : PA X (e :: es) (tA E G Rl)) (hw : Rs w = IsQ C q :: Rl) (hp : pr w) (hR : Rg w = R := by exact rfl) (h1 : (m == kTop) = false := by decide) (h2 : (m == kBot) = false := by decide)
    (hst : starEach (e :: es) X.env = (false, eval e X.env) :: starEach es X.env := by rfl) (hpl : (backTo pos (starEach es X.env)).any (·.1) = false := by rfl)
    (ht : eval (.Call (.Attribute o m apos) (e :: es) [] pos) X.env = (do
      let ov ← eval o X.env
      standAt apos.atName
      let (f, first) ← holding [ov] (getMethod ov m pl)
      callWith pos f first (backTo pos (starEach (e :: es) X.env)) (backToKw pos (keywordEach [] X.env))) := by rfl) : PE X (.Call (.Attribute o m apos) (e :: es) [] pos) (tE E G R) := by
  subst hR
  obtain ⟨f, fd, c, h, ok, bd⟩ := T
  exact je_meth (E' := E0) w (pe_meth (pl := pl) ho c h ok hr bd .nil pass0 ha hst hpl ht) hw hp h1 h2
theorem jcm {Rl : List (V → Hp → Prop)} {pl : Sem Bool} (T : CmK X.prog X.w X.K X.mg X.base C m k (Pr Rs pr Rg)) (hr : Room k X.A) (w : ι) (hgl : Gl X x) (hmg : X.mg x = some (.ref C)) (ha : PA X (e :: es) (tA E G Rl)) (hw : Rs w = IsC (.ref C) :: Rl) (hp : pr w) (hR : Rg w = R := by exact rfl) (hdb : (x == ("__debug__" : Str)) = false := by decide)
    (hst : starEach (e :: es) X.env = (false, eval e X.env) :: starEach es X.env := by rfl) (hpl : (backTo pos (starEach es X.env)).any (·.1) = false := by rfl)
    (ht : eval (.Call (.Attribute (.Name x p) m apos) (e :: es) [] pos) X.env = (do
      let ov ← eval (.Name x p) X.env
      standAt apos.atName
      let (f, first) ← holding [ov] (getMethod ov m pl)
      callWith pos f first (backTo pos (starEach (e :: es) X.env)) (backToKw pos (keywordEach [] X.env))) := by rfl) : PE X (.Call (.Attribute (.Name x p) m apos) (e :: es) [] pos) (tE E G R) := by
  subst hR
  obtain ⟨mc, p', g, c, h, ok⟩ := T
  exact je_cmeth (E' := E0) w (ClX.pe_cmeth (pl := pl) (pe_glob (v := .ref C) hgl hmg rfl hdb) c h ok hr pass0 ha hst hpl ht) hw hp
end
section
variable {X : Cx} {E : En} {G : List Sl} {pos : Pos} {α β : Type} {Rx : α → V → Hp → Prop} {xs : List α} {Ry : β → V → Hp → Prop} {tg iter elt : Expr} {ifs : List Expr} {scope : Scope} {own : List (Str × Nat)} {idx : List Nat} {f : α → List Sl → List Sl}
theorem jts_nil : PTs X [] (tT E G true) := ⟨fun pins s σ H Q I ⟨F, S, k⟩ => pts_nil.run pins s σ H Q I (k F H S.refl)⟩
theorem jts_one {c : Expr} {b : Bool} (h : PT X c (tT E G b)) : PTs X [c] (tT E G b) := pts_one h
theorem filter_true {α : Type} (xs : List α) : xs.filter (fun _ => true) = xs := by
  induction xs with
  | nil => rfl
  | cons x xs ih => rw [List.filter_cons, if_pos rfl, ih]
/-- [elt for tg in iter] -/
theorem jlc {Rm : List V → Hp → Prop} (g : α → β) (own : List (Str × Nat)) (hN : X.N.Nodup) (hi : PI X tg iter (tI E G Rx xs))
    (hg : ∀ (s : Shared) (H : Hp) (C : Addr) (cl : List (Str × Addr)) (fp : List Addr) (x : α), PG (X.blk s H scope (compEnvC scope cl C X.env) fp) tg (tG E (Rx x) idx (f x)))
    (he : ∀ (s : Shared) (H : Hp) (C : Addr) (cl : List (Str × Addr)) (fp : List Addr) (x : α), x ∈ xs → PE (X.blk s H scope (compEnvC scope cl C X.env) fp) elt (tE E (f x (wipeG G (own.map (·.2)))) (Ry (g x))))
    (hz : xs.length < sizeLine) (hR : LsOf Ry (xs.map g) = Rm := by exact rfl) (ok : blkC X.N X.env.scope scope own = true := by kernel_rfl) (hc : X.calm = true := by rfl) (hidx : ∀ k ∈ idx, k ∈ own.map (·.2) := by decide) (hs : ∀ x, foldedSetIterable iter X.env x = pure x := by intro _; rfl) :
    PE X (.ListComp elt [⟨tg, iter, [], 0⟩] scope pos) (tM E G Rm) := by
  subst hR
  have h := jm_lc (X := X) (pos := pos) (fun _ => true) g hc hN hi (blkOk_by ok) hidx hg (fun s H C cl fp x hx => jts_nil) (fun s H C cl fp x hx _ => he s H C cl fp x hx) hz hs
  rwa [filter_true] at h
/-- name = [elt for tg in iter], the name a local -/
theorem jslc {i : Nat} {y : Str} {py spos : Pos} {Rt : V → Hp → Hp → Prop} (g : α → β) (own : List (Str × Nat)) (hN : X.N.Nodup) (hi : PI X tg iter (tI E G Rx xs))
    (hg : ∀ (s : Shared) (H : Hp) (C : Addr) (cl : List (Str × Addr)) (fp : List Addr) (x : α), PG (X.blk s H scope (compEnvC scope cl C X.env) fp) tg (tG E (Rx x) idx (f x)))
    (he : ∀ (s : Shared) (H : Hp) (C : Addr) (cl : List (Str × Addr)) (fp : List Addr) (x : α), x ∈ xs → PE (X.blk s H scope (compEnvC scope cl C X.env) fp) elt (tE E (f x (wipeG G (own.map (·.2)))) (Ry (g x))))
    (hz : xs.length < sizeLine) (hy : X.N[i]? = some y := by exact rfl) (hyl : X.env.scope.names.lookup y = some .local := by exact rfl) (hsw : swapsWith (.ListComp elt [⟨tg, iter, [], 0⟩] scope pos) (some (.Name y py)) spos.line X.env = pure true := by exact sw_true rfl rfl rfl (by decide +kernel))
    (ok : blkC X.N X.env.scope scope own = true := by kernel_rfl) (hc : X.calm = true := by rfl) (hidx : ∀ k ∈ idx, k ∈ own.map (·.2) := by decide) (hs : ∀ x, foldedSetIterable iter X.env x = pure x := by intro _; rfl) :
    PS X (.Assign [.Name y py] (.ListComp elt [⟨tg, iter, [], 0⟩] scope pos) spos) (tS E G Rt (· = G.set i (.mt (LsOf Ry (xs.map g))))) := by
  have h := js_setLc (X := X) (E := E) (G := G) (pos := pos) (spos := spos) (py := py) (i := i) (Rt := Rt) (fun _ => true) g hc hN hy hyl hsw hi (blkOk_by ok) hidx hg (fun s H C cl fp x hx => jts_nil) (fun s H C cl fp x hx _ => he s H C cl fp x hx) hz hs
  rwa [filter_true] at h
end
/-! ### lists or tuples of anything -/
def IsAL (v : V) (F : Hp) : Prop := ∃ a vs, v = .ref a ∧ F a = some (.lst vs)
def IsAT (v : V) (F : Hp) : Prop := ∃ a vs, v = .ref a ∧ F a = some (.tup vs)
def IsLT (v : V) (F : Hp) : Prop := IsAL v F ∨ IsAT v F
theorem lst_al {R : List V → Hp → Prop} : ∀ v F, LstOf R v F → IsAL v F := fun v F ⟨a, vs, e, h, _⟩ => ⟨a, vs, e, h⟩
theorem tup_at {R : List V → Hp → Prop} : ∀ v F, TupOf R v F → IsAT v F := fun v F ⟨a, vs, e, h, _⟩ => ⟨a, vs, e, h⟩
theorem lst_lt {R : List V → Hp → Prop} : ∀ v F, LstOf R v F → IsLT v F := fun v F h => .inl (lst_al v F h)
theorem tup_lt {R : List V → Hp → Prop} : ∀ v F, TupOf R v F → IsLT v F := fun v F h => .inr (tup_at v F h)
theorem sq_lt {α : Type} {R : α → V → Hp → Prop} {xs : List α} : ∀ v F, IsSq R xs v F → IsLT v F := fun v F h => h.elim (lst_lt v F) (tup_lt v F)
theorem isi_al {K : PySem.W.Frag} {pp : Option Addr} {b : Bool} {cs : List V} {us : List Value} {Rz' : List (V → Hp → Prop)} (hc : Paired ClsV cs us) (hk : PySem.W.kitAny K (.type "list") us = some b) (hl : cs.map IsC = Rz' := by rfl) : RC pp (rIsiT K) [IsAL, TupOf (Args Rz')] (IsB b) := rc_isiT (t := .type "list") hc hk (fun v F H e ⟨a, vs, ev, h⟩ => by
  subst ev
  exact .base (.lst (e _ _ h))) hl
theorem isi_at {K : PySem.W.Frag} {pp : Option Addr} {b : Bool} {cs : List V} {us : List Value} {Rz' : List (V → Hp → Prop)} (hc : Paired ClsV cs us) (hk : PySem.W.kitAny K (.type "tuple") us = some b) (hl : cs.map IsC = Rz' := by rfl) : RC pp (rIsiT K) [IsAT, TupOf (Args Rz')] (IsB b) := rc_isiT (t := .type "tuple") hc hk (fun v F H e ⟨a, vs, ev, h⟩ => by
  subst ev
  exact .base (.tup (e _ _ h))) hl
theorem isi_at1 {K : PySem.W.Frag} {pp : Option Addr} : RC pp (rIsi K) [IsAT, IsC (.ty "tuple")] (IsB true) := rc_isi (t := .type "tuple") (.ty "tuple") (kit_ty (by decide +kernel)) fun v F H e ⟨a, vs, ev, h⟩ => by
  subst ev
  exact .base (.tup (e _ _ h))
theorem js_frz {X : Cx} {E : En} {G : List Sl} {i : Nat} {R : List V → Hp → Prop} {st : List Stmt} {Rt : V → Hp → Hp → Prop} {N : List Sl → Prop} (hG : G[i]? = some (.mt R)) (k : PSs X st (tS E (G.set i (.fz (LstOf R))) Rt N)) : PSs X st (tS E G Rt N) := PSs_imp k fun D σ H ⟨F, S, kn, kr⟩ => by
  obtain ⟨p, vs, e, h1, h2, h3, h4, S'⟩ := S.freeze hG
  exact ⟨_, S', fun G' σ' F' H' n S2 ex => kn G' σ' F' H' n S2 ((Ex.new h1).trans ex), kr⟩
end Gw
set_option maxHeartbeats 4000000
/-! The head's facts, with functions found by a path (a property's getter, a classmethod's def) and one more Bool. -/
namespace Gw
open PySem PySem.Spec PyProof.Rows L2 He
def fnWa (K : PySem.W.Frag) (a : Addr) : FnW := match K.lookup a with
  | some ⟨_, _, .func fd, _⟩ => some (fd.name, fd.qualname, fd.params, fd.body, fd.scope, fd.globals, fd.closure, fd.builtins)
  | _ => none
structure DefA where
  path : PySem.W.Frag → Addr
  name : Str
  qual : Str
  params : Arguments
  body : List Stmt
  scope : Scope
def DefA.val (d : DefA) : FnW := some (d.name, d.qual, d.params, .stmts d.body, d.scope, mainGlobals, [], builtinsNs)
def DefA.ok (K : PySem.W.Frag) (d : DefA) : Bool := PySem.W.keepIn K (.ref (d.path K)) && (match K.lookup (d.path K) with
  | some ⟨_, _, .func fd, _⟩ => PySem.W.codeIn K fd.code d.qual && (dflB K fd.defaults [] && kwdB K fd.kwdefaults [])
  | _ => false)
theorem DefA.funD {K : PySem.W.Frag} {d : DefA} (e : fnWa K (d.path K) = d.val) (c : d.ok K = true) : ∃ fd, FunD K d.name d.qual d.params d.body d.scope [] [] (d.path K) fd := by
  obtain ⟨kp, c2⟩ := ba c
  unfold fnWa at e
  cases q : K.lookup (d.path K) with
  | none =>
    rw [q] at c2
    cases c2
  | some o =>
    obtain ⟨oc, od, dt, osl⟩ := o
    rw [q] at c2 e
    cases dt with
    | func fd =>
      obtain ⟨n1, n2, n3, n4, n5, n6, n7, n8, n9, n10, n11, n12, n13, n14, n15⟩ := fd
      have e2 : (some (n1, n2, n3, n4, n5, n6, n7, n15) : FnW) = some (d.name, d.qual, d.params, .stmts d.body, d.scope, mainGlobals, [], builtinsNs) := e
      simp only [Option.some.injEq, Prod.mk.injEq] at e2
      obtain ⟨h1, h2, h3, h4, h5, h6, h7, h8⟩ := e2
      subst h1 h2 h3 h4 h5 h6 h7 h8
      have c3 : (PySem.W.codeIn K n13 d.qual && (dflB K n8 [] && kwdB K n9 [])) = true := c2
      obtain ⟨k1, k2⟩ := ba c3
      obtain ⟨k3, k4⟩ := ba k2
      exact ⟨_, ⟨oc, od, n8, n9, n10, n11, n12, n13, n14, osl, rfl, q, k1, dflB_ok k3, kwdB_ok k4⟩, kp⟩
    | _ => cases c2
abbrev AlG : Type := AlD × Bool × List FnW
def obsA (fa : List Fa) (fn : List DefD) (da : List DefA) (ex : PySem.W.Frag → Bool) (K : PySem.W.Frag) : AlG := (obsD fa fn K, ex K && da.all fun d => d.ok K, da.map fun d => fnWa K (d.path K))
def valA (fn : List DefD) (da : List DefA) : AlG := (valD fn, true, da.map DefA.val)
def SaysA (fa : List Fa) (fn : List DefD) (da : List DefA) (ex : PySem.W.Frag → Bool) (K : PySem.W.Frag) : Prop := obsA fa fn da ex K = valA fn da
def obsAG (n : Nat) (fa : List Fa) (fn : List DefD) (da : List DefA) (ex : PySem.W.Frag → Bool) (g : Addr → Option Obj) : AlG := obsA fa fn da ex (frG g (List.range n))
def hookA (n : Nat) (fa : List Fa) (fn : List DefD) (da : List DefA) (ex : PySem.W.Frag → Bool) : PySem.W.Hook where
  α := AlG
  obs := fun s => obsAG n fa fn da ex s.heap.get?
  val := fun _ => valA fn da
  says := fun _ h => ∃ K : PySem.W.Frag, K.In h ∧ SaysA fa fn da ex K
  of := fun _ _ e => ⟨_, frG_in, e⟩
  keeps := fun _ _ _ ⟨K, hK, c⟩ k => ⟨K, PySem.W.Frag.In.keeps hK k, c⟩
theorem obsAG_eq {n : Nat} {fa : List Fa} {fn : List DefD} {da : List DefA} {ex : PySem.W.Frag → Bool} {g : Addr → Option Obj} {s : Shared} (h : ∀ a, g a = s.heap.get? a) : obsAG n fa fn da ex g = (hookA n fa fn da ex).obs s := by
  have e : g = s.heap.get? := funext h
  rw [e] <;> rfl
section
variable {fa : List Fa} {fn : List DefD} {da : List DefA} {ex : PySem.W.Frag → Bool} {K : PySem.W.Frag}
theorem SaysA.d (c : SaysA fa fn da ex K) : SaysD fa fn K := congrArg (fun z : AlG => z.1) c
theorem SaysA.x (c : SaysA fa fn da ex K) : ex K = true := (ba (show (ex K && da.all fun d => d.ok K) = true from congrArg (fun z : AlG => z.2.1) c)).1
theorem SaysA.a (c : SaysA fa fn da ex K) (i : Nat) {d : DefA} (h : da[i]? = some d := by rfl) : ∃ fd, FunD K d.name d.qual d.params d.body d.scope [] [] (d.path K) fd := by
  have c2 := (ba (show (ex K && da.all fun d => d.ok K) = true from congrArg (fun z : AlG => z.2.1) c)).2
  have e : da.map (fun d => fnWa K (d.path K)) = da.map DefA.val := congrArg (fun z : AlG => z.2.2) c
  have e2 : (da.map fun d => fnWa K (d.path K))[i]? = (da.map DefA.val)[i]? := by rw [e]
  rw [List.getElem?_map, List.getElem?_map, h] at e2
  exact DefA.funD (Option.some.inj e2) (List.all_eq_true.mp c2 d (List.mem_of_getElem? h))
end
/-! ### facts of the class Ratio -/
def recAd (K : PySem.W.Frag) (p : Addr) (T : String) : Addr := match PySem.W.recIn K p T with
  | some (.ref g :: _) => g
  | _ => 0
def recB (K : PySem.W.Frag) (p : Addr) (T : String) : Bool := match PySem.W.recIn K p T with
  | some (.ref _ :: _) => true
  | _ => false
theorem rec_ok {K : PySem.W.Frag} {p : Addr} {T : String} (h : recB K p T = true) : ∃ rest, PySem.W.recIn K p T = some (.ref (recAd K p T) :: rest) := by
  unfold recB at h
  unfold recAd
  cases e : PySem.W.recIn K p T with
  | none => rw [e] at h; cases h
  | some l =>
    rw [e] at h
    cases l with
    | nil => cases h
    | cons v r =>
      cases v with
      | ref g => exact ⟨r, rfl⟩
      | _ => cases h
def cRat (K : PySem.W.Frag) : Addr := ga K "Ratio"
def xGlo (K : PySem.W.Frag) : Bool := eqO (PySem.W.nsIn K mainGlobals "gcd") (some (some (.builtin "math.gcd"))) && eqO (PySem.W.nsIn K mainGlobals "lcm") (some (some (.builtin "math.lcm")))
def xRat (K : PySem.W.Frag) : Bool := eqO (PySem.W.findIn K (.ref (cRat K)) "__class__") (some (some (.builtin "object.__class__"))) && (eqO (PySem.W.specialIn K (.builtin "object.__class__") "__get__") (some (some (.builtin "getset_descriptor.__get__"))) &&
  (decide (PySem.W.takesIn K (.builtin "object.__class__") = some true) && (decide (PySem.W.mroIn K (cRat K) (.type "object") = some true) && (decide (PySem.W.kitOne K (.ref (cRat K)) (.ref (cRat K)) = some true) &&
  (decide (PySem.W.kitOne K (.type "int") (.ref (cRat K)) = some false) && decide (PySem.W.kitOne K (.ref (cRat K)) (.type "int") = some false))))))
def xOp (K : PySem.W.Frag) (op : Operator) (m r : Str) : Bool := PySem.W.selfFirst K (cRat K) && (eqO (PySem.W.findIn K (.ref (cRat K)) (PySem.dunder op.info.2)) (some (some (.ref (ma K (cRat K) m)))) && (PySem.W.isFn K (.ref (ma K (cRat K) m)) &&
  (eqO (PySem.W.findIn K (.ref (cRat K)) (dunderR op.info.2)) (some (some (.ref (ma K (cRat K) r)))) && (PySem.W.isFn K (.ref (ma K (cRat K) r)) && ((PySem.W.findIn K (.type "int") (PySem.dunder op.info.2)).isSome && ((PySem.W.findIn K (.type "int") (dunderR op.info.2)).isSome &&
  (decide (PySem.W.subIn K (.type "int") (.ref (cRat K)) = some false) && decide (PySem.W.subIn K (.ref (cRat K)) (.type "int") = some false))))))))
def xEq (K : PySem.W.Frag) : Bool := eqO (PySem.W.findIn K (.ref (cRat K)) "__eq__") (some (some (.ref (ma K (cRat K) "__eq__")))) && (PySem.W.isFn K (.ref (ma K (cRat K) "__eq__")) && (eqO (PySem.W.findIn K (.ref (cRat K)) "__ne__") (some (some (.builtin "object.__ne__"))) && decide (PySem.W.subIn K (.ref (cRat K)) (.type "object") = some true)))
def xProp (K : PySem.W.Frag) (m : Str) : Bool := eqO (PySem.W.findIn K (.ref (cRat K)) m) (some (some (.ref (ma K (cRat K) m)))) && (eqO (PySem.W.specialIn K (.ref (ma K (cRat K) m)) "__get__") (some (some (.builtin "property.__get__"))) && (decide (PySem.W.takesIn K (.ref (ma K (cRat K) m)) = some true) && recB K (ma K (cRat K) m) "property"))
def xCm (K : PySem.W.Frag) (m : Str) : Bool := PySem.W.readsIn K (cRat K) (.type "type") && (eqO (PySem.W.specialIn K (.ref (cRat K)) "__getattribute__") (some (some (.builtin "type.__getattribute__"))) && ((match PySem.W.findCls K (.ref (cRat K)) (.type "type") m with
  | some (.get g p o c) => decide (g = .builtin "classmethod.__get__") && (decide (p = .ref (ma K (cRat K) m)) && (decide (o = .none) && decide (c = .ref (cRat K))))
  | _ => false) && (recB K (ma K (cRat K) m) "classmethod" && PySem.W.fnIn K (recAd K (ma K (cRat K) m) "classmethod"))))
section
variable {K : PySem.W.Frag}
theorem op_ok {op : Operator} {m r : Str} (h : xOp K op m r = true) : OwnI K (cRat K) (ma K (cRat K) m) (ma K (cRat K) r) op := by
  obtain ⟨h1, h⟩ := ba h
  obtain ⟨h2, h⟩ := ba h
  obtain ⟨h3, h⟩ := ba h
  obtain ⟨h4, h⟩ := ba h
  obtain ⟨h5, h⟩ := ba h
  obtain ⟨h6, h⟩ := ba h
  obtain ⟨h7, h⟩ := ba h
  obtain ⟨h8, h9⟩ := ba h
  exact { sf := h1, at_ := eqO_ok h2, fn := h3, rat := eqO_ok h4, gn := h5, i1 := Option.isSome_iff_exists.mp h6, i2 := Option.isSome_iff_exists.mp h7, s1 := of_decide_eq_true h8, s2 := of_decide_eq_true h9 }
theorem eq_ok (h : xEq K = true) : PySem.W.findIn K (.ref (cRat K)) "__eq__" = some (some (.ref (ma K (cRat K) "__eq__"))) ∧ PySem.W.isFn K (.ref (ma K (cRat K) "__eq__")) = true ∧ PySem.W.findIn K (.ref (cRat K)) "__ne__" = some (some (.builtin "object.__ne__")) ∧ PySem.W.subIn K (.ref (cRat K)) (.type "object") = some true := by
  obtain ⟨h1, h⟩ := ba h
  obtain ⟨h2, h⟩ := ba h
  obtain ⟨h3, h4⟩ := ba h
  exact ⟨eqO_ok h1, h2, eqO_ok h3, of_decide_eq_true h4⟩
theorem prop_ok {m : Str} (h : xProp K m = true) : PropOf K (cRat K) m (ma K (cRat K) m) (recAd K (ma K (cRat K) m) "property") := by
  obtain ⟨h1, h⟩ := ba h
  obtain ⟨h2, h⟩ := ba h
  obtain ⟨h3, h4⟩ := ba h
  exact ⟨eqO_ok h1, eqO_ok h2, of_decide_eq_true h3, rec_ok h4⟩
theorem cm_ok {m : Str} (h : xCm K m = true) : ClX.CRead K (cRat K) (.type "type") ∧ ClX.CMet K (cRat K) (.type "type") m (ma K (cRat K) m) (recAd K (ma K (cRat K) m) "classmethod") := by
  obtain ⟨h1, h⟩ := ba h
  obtain ⟨h2, h⟩ := ba h
  obtain ⟨h3, h⟩ := ba h
  obtain ⟨h4, h5⟩ := ba h
  refine ⟨⟨h1, eqO_ok h2⟩, ⟨?_, rec_ok h4, h5⟩⟩
  cases e : PySem.W.findCls K (.ref (cRat K)) (.type "type") m with
  | none => rw [e] at h3; cases h3
  | some r =>
    rw [e] at h3
    cases r with
    | get g p o c =>
      obtain ⟨a1, h3⟩ := ba h3
      obtain ⟨a2, h3⟩ := ba h3
      obtain ⟨a3, a4⟩ := ba h3
      rw [of_decide_eq_true a1, of_decide_eq_true a2, of_decide_eq_true a3, of_decide_eq_true a4]
    | _ => cases h3
theorem rat_ok (h : xRat K = true) (hc : Cls K (cRat K)) (ht : NoAttr K (cRat K) kTop) (hb : NoAttr K (cRat K) kBot) : RatF K (cRat K) := by
  obtain ⟨h1, h⟩ := ba h
  obtain ⟨h2, h⟩ := ba h
  obtain ⟨h3, h⟩ := ba h
  obtain ⟨h4, h⟩ := ba h
  obtain ⟨h5, h⟩ := ba h
  obtain ⟨h6, h7⟩ := ba h
  exact ⟨hc, ht, hb, eqO_ok h1, eqO_ok h2, of_decide_eq_true h3, of_decide_eq_true h4, of_decide_eq_true h5, of_decide_eq_true h6, of_decide_eq_true h7⟩
end
end Gw
set_option maxHeartbeats 4000000
namespace Gw
open PySem PySem.Spec PyProof.Rows L2

abbrev prg : Program := PySem.Challenge.pw_walkworths_k82_any_value_as_splitting_or
def top (i : Nat) : Stmt := prg.main.body.getD i (.Pass ⟨0, 0, 0, 0⟩)
def mth (i j : Nat) : Stmt := match top i with
  | .ClassDef _ _ _ b _ _ _ _ _ _ _ => b.getD j (.Pass ⟨0, 0, 0, 0⟩)
  | _ => .Pass ⟨0, 0, 0, 0⟩
abbrev FnP (K : PySem.W.Frag) (x : Str) (st : Stmt) (f : Addr) (fd : FuncData) : Prop := FunD K x x (defArgs st) (defBody st) (defScope st) [] [] f fd
abbrev FnM (K : PySem.W.Frag) (x q : Str) (st : Stmt) (f : Addr) (fd : FuncData) : Prop := FunD K x q (defArgs st) (defBody st) (defScope st) [] [] f fd

abbrev st__wall : Stmt := top 1
abbrev N__wall : List Str := ["k"]
theorem sc__wall : FnScope N__wall ["k"] (defScope st__wall) := ⟨rfl, rfl, rfl, by decide +kernel, rfl, by decide +kernel, by decide +kernel⟩
abbrev st_is_integer : Stmt := top 8
abbrev N_is_integer : List Str := ["value"]
theorem sc_is_integer : FnScope N_is_integer ["value"] (defScope st_is_integer) := ⟨rfl, rfl, rfl, by decide +kernel, rfl, by decide +kernel, by decide +kernel⟩
abbrev st_is_list : Stmt := top 9
abbrev N_is_list : List Str := ["value"]
theorem sc_is_list : FnScope N_is_list ["value"] (defScope st_is_list) := ⟨rfl, rfl, rfl, by decide +kernel, rfl, by decide +kernel, by decide +kernel⟩
abbrev st_digits_of : Stmt := top 12
abbrev N_digits_of : List Str := ["number", "left", "told", "part", "sign"]
theorem sc_digits_of : FnScope N_digits_of ["number"] (defScope st_digits_of) := ⟨rfl, rfl, rfl, by decide +kernel, rfl, by decide +kernel, by decide +kernel⟩
abbrev st_divisor_of : Stmt := top 13
abbrev N_divisor_of : List Str := ["one", "other"]
theorem sc_divisor_of : FnScope N_divisor_of ["one", "other"] (defScope st_divisor_of) := ⟨rfl, rfl, rfl, by decide +kernel, rfl, by decide +kernel, by decide +kernel⟩
abbrev st_R__init__ : Stmt := mth 14 0
abbrev N_R__init__ : List Str := ["self", "top", "bottom", "common"]
theorem sc_R__init__ : FnScope N_R__init__ ["self", "top", "bottom"] (defScope st_R__init__) := ⟨rfl, rfl, rfl, by decide +kernel, rfl, by decide +kernel, by decide +kernel⟩
abbrev st_Rtop : Stmt := mth 14 1
abbrev N_Rtop : List Str := ["self"]
theorem sc_Rtop : FnScope N_Rtop ["self"] (defScope st_Rtop) := ⟨rfl, rfl, rfl, by decide +kernel, rfl, by decide +kernel, by decide +kernel⟩
abbrev st_Rbottom : Stmt := mth 14 2
abbrev N_Rbottom : List Str := ["self"]
theorem sc_Rbottom : FnScope N_Rbottom ["self"] (defScope st_Rbottom) := ⟨rfl, rfl, rfl, by decide +kernel, rfl, by decide +kernel, by decide +kernel⟩
abbrev st_Rsign : Stmt := mth 14 3
abbrev N_Rsign : List Str := ["self"]
theorem sc_Rsign : FnScope N_Rsign ["self"] (defScope st_Rsign) := ⟨rfl, rfl, rfl, by decide +kernel, rfl, by decide +kernel, by decide +kernel⟩
abbrev st_Ris_whole : Stmt := mth 14 4
abbrev N_Ris_whole : List Str := ["self"]
theorem sc_Ris_whole : FnScope N_Ris_whole ["self"] (defScope st_Ris_whole) := ⟨rfl, rfl, rfl, by decide +kernel, rfl, by decide +kernel, by decide +kernel⟩
abbrev st_Rtotal : Stmt := mth 14 5
abbrev N_Rtotal : List Str := ["cls", "numbers", "number"]
theorem sc_Rtotal : FnScope N_Rtotal ["cls", "numbers"] (defScope st_Rtotal) := ⟨rfl, rfl, rfl, by decide +kernel, rfl, by decide +kernel, by decide +kernel⟩
abbrev st_R__add__ : Stmt := mth 14 6
abbrev N_R__add__ : List Str := ["self", "other", "top", "bottom"]
theorem sc_R__add__ : FnScope N_R__add__ ["self", "other"] (defScope st_R__add__) := ⟨rfl, rfl, rfl, by decide +kernel, rfl, by decide +kernel, by decide +kernel⟩
abbrev st_R__radd__ : Stmt := mth 14 7
abbrev N_R__radd__ : List Str := ["self", "other", "top", "bottom"]
theorem sc_R__radd__ : FnScope N_R__radd__ ["self", "other"] (defScope st_R__radd__) := ⟨rfl, rfl, rfl, by decide +kernel, rfl, by decide +kernel, by decide +kernel⟩
abbrev st_R__sub__ : Stmt := mth 14 8
abbrev N_R__sub__ : List Str := ["self", "other", "top", "bottom"]
theorem sc_R__sub__ : FnScope N_R__sub__ ["self", "other"] (defScope st_R__sub__) := ⟨rfl, rfl, rfl, by decide +kernel, rfl, by decide +kernel, by decide +kernel⟩
abbrev st_R__rsub__ : Stmt := mth 14 9
abbrev N_R__rsub__ : List Str := ["self", "other", "top", "bottom"]
theorem sc_R__rsub__ : FnScope N_R__rsub__ ["self", "other"] (defScope st_R__rsub__) := ⟨rfl, rfl, rfl, by decide +kernel, rfl, by decide +kernel, by decide +kernel⟩
abbrev st_R__mul__ : Stmt := mth 14 10
abbrev N_R__mul__ : List Str := ["self", "other", "top", "bottom"]
theorem sc_R__mul__ : FnScope N_R__mul__ ["self", "other"] (defScope st_R__mul__) := ⟨rfl, rfl, rfl, by decide +kernel, rfl, by decide +kernel, by decide +kernel⟩
abbrev st_R__rmul__ : Stmt := mth 14 11
abbrev N_R__rmul__ : List Str := ["self", "other", "top", "bottom"]
theorem sc_R__rmul__ : FnScope N_R__rmul__ ["self", "other"] (defScope st_R__rmul__) := ⟨rfl, rfl, rfl, by decide +kernel, rfl, by decide +kernel, by decide +kernel⟩
abbrev st_R__neg__ : Stmt := mth 14 12
abbrev N_R__neg__ : List Str := ["self"]
theorem sc_R__neg__ : FnScope N_R__neg__ ["self"] (defScope st_R__neg__) := ⟨rfl, rfl, rfl, by decide +kernel, rfl, by decide +kernel, by decide +kernel⟩
abbrev st_Rover : Stmt := mth 14 13
abbrev N_Rover : List Str := ["self", "other", "top", "bottom"]
theorem sc_Rover : FnScope N_Rover ["self", "other"] (defScope st_Rover) := ⟨rfl, rfl, rfl, by decide +kernel, rfl, by decide +kernel, by decide +kernel⟩
abbrev st_Rsize : Stmt := mth 14 14
abbrev N_Rsize : List Str := ["self"]
theorem sc_Rsize : FnScope N_Rsize ["self"] (defScope st_Rsize) := ⟨rfl, rfl, rfl, by decide +kernel, rfl, by decide +kernel, by decide +kernel⟩
abbrev st_Ris_below : Stmt := mth 14 15
abbrev N_Ris_below : List Str := ["self", "other", "top", "bottom"]
theorem sc_Ris_below : FnScope N_Ris_below ["self", "other"] (defScope st_Ris_below) := ⟨rfl, rfl, rfl, by decide +kernel, rfl, by decide +kernel, by decide +kernel⟩
abbrev st_Ris_at_most : Stmt := mth 14 16
abbrev N_Ris_at_most : List Str := ["self", "other", "top", "bottom"]
theorem sc_Ris_at_most : FnScope N_Ris_at_most ["self", "other"] (defScope st_Ris_at_most) := ⟨rfl, rfl, rfl, by decide +kernel, rfl, by decide +kernel, by decide +kernel⟩
abbrev st_R__eq__ : Stmt := mth 14 17
abbrev N_R__eq__ : List Str := ["self", "other"]
theorem sc_R__eq__ : FnScope N_R__eq__ ["self", "other"] (defScope st_R__eq__) := ⟨rfl, rfl, rfl, by decide +kernel, rfl, by decide +kernel, by decide +kernel⟩
abbrev st_R__str__ : Stmt := mth 14 18
abbrev N_R__str__ : List Str := ["self"]
theorem sc_R__str__ : FnScope N_R__str__ ["self"] (defScope st_R__str__) := ⟨rfl, rfl, rfl, by decide +kernel, rfl, by decide +kernel, by decide +kernel⟩
abbrev st_R__repr__ : Stmt := mth 14 19
abbrev N_R__repr__ : List Str := ["self"]
theorem sc_R__repr__ : FnScope N_R__repr__ ["self"] (defScope st_R__repr__) := ⟨rfl, rfl, rfl, by decide +kernel, rfl, by decide +kernel, by decide +kernel⟩
abbrev st_told_pair : Stmt := top 15
abbrev N_told_pair : List Str := ["value"]
theorem sc_told_pair : FnScope N_told_pair ["value"] (defScope st_told_pair) := ⟨rfl, rfl, rfl, by decide +kernel, rfl, by decide +kernel, by decide +kernel⟩
abbrev st_is_number : Stmt := top 16
abbrev N_is_number : List Str := ["value"]
theorem sc_is_number : FnScope N_is_number ["value"] (defScope st_is_number) := ⟨rfl, rfl, rfl, by decide +kernel, rfl, by decide +kernel, by decide +kernel⟩
abbrev st_ratio_of : Stmt := top 17
abbrev N_ratio_of : List Str := ["number"]
theorem sc_ratio_of : FnScope N_ratio_of ["number"] (defScope st_ratio_of) := ⟨rfl, rfl, rfl, by decide +kernel, rfl, by decide +kernel, by decide +kernel⟩
abbrev st_want_number : Stmt := top 18
abbrev N_want_number : List Str := ["value"]
theorem sc_want_number : FnScope N_want_number ["value"] (defScope st_want_number) := ⟨rfl, rfl, rfl, by decide +kernel, rfl, by decide +kernel, by decide +kernel⟩
abbrev st_total_of : Stmt := top 19
abbrev N_total_of : List Str := ["ratios", "found", "ratio"]
theorem sc_total_of : FnScope N_total_of ["ratios"] (defScope st_total_of) := ⟨rfl, rfl, rfl, by decide +kernel, rfl, by decide +kernel, by decide +kernel⟩
abbrev st_is_part : Stmt := top 22
abbrev N_is_part : List Str := ["value", "number"]
theorem sc_is_part : FnScope N_is_part ["value"] (defScope st_is_part) := ⟨rfl, rfl, rfl, by decide +kernel, rfl, by decide +kernel, by decide +kernel⟩
abbrev st_guess_in : Stmt := top 23
abbrev N_guess_in : List Str := ["value", "found", "chance", "far", "near", "part", "worth"]
theorem sc_guess_in : FnScope N_guess_in ["value"] (defScope st_guess_in) := ⟨rfl, rfl, rfl, by decide +kernel, rfl, by decide +kernel, by decide +kernel⟩
abbrev st_want_guess : Stmt := top 24
abbrev N_want_guess : List Str := ["value", "found"]
theorem sc_want_guess : FnScope N_want_guess ["value"] (defScope st_want_guess) := ⟨rfl, rfl, rfl, by decide +kernel, rfl, by decide +kernel, by decide +kernel⟩
abbrev st_above : Stmt := top 25
abbrev N_above : List Str := ["guess", "number", "chance", "worth"]
theorem sc_above : FnScope N_above ["guess", "number"] (defScope st_above) := ⟨rfl, rfl, rfl, by decide +kernel, rfl, by decide +kernel, by decide +kernel⟩
abbrev st_is_hinge_of : Stmt := top 26
abbrev N_is_hinge_of : List Str := ["guess", "other", "number"]
theorem sc_is_hinge_of : FnScope N_is_hinge_of ["guess", "other", "number"] (defScope st_is_hinge_of) := ⟨rfl, rfl, rfl, by decide +kernel, rfl, by decide +kernel, by decide +kernel⟩
abbrev st_hinge_of : Stmt := top 27
abbrev N_hinge_of : List Str := ["guess", "other", "chance", "worth"]
theorem sc_hinge_of : FnScope N_hinge_of ["guess", "other"] (defScope st_hinge_of) := ⟨rfl, rfl, rfl, by decide +kernel, rfl, by decide +kernel, by decide +kernel⟩
abbrev st_ends_of : Stmt := top 28
abbrev N_ends_of : List Str := ["masses", "found", "mass"]
theorem sc_ends_of : FnScope N_ends_of ["masses"] (defScope st_ends_of) := ⟨rfl, rfl, rfl, by decide +kernel, rfl, by decide +kernel, by decide +kernel⟩
abbrev st_lesser : Stmt := top 29
abbrev N_lesser : List Str := ["one", "other"]
theorem sc_lesser : FnScope N_lesser ["one", "other"] (defScope st_lesser) := ⟨rfl, rfl, rfl, by decide +kernel, rfl, by decide +kernel, by decide +kernel⟩
abbrev st_greater : Stmt := top 30
abbrev N_greater : List Str := ["one", "other"]
theorem sc_greater : FnScope N_greater ["one", "other"] (defScope st_greater) := ⟨rfl, rfl, rfl, by decide +kernel, rfl, by decide +kernel, by decide +kernel⟩
abbrev st_taken_from : Stmt := top 31
abbrev N_taken_from : List Str := ["ends", "begin", "mass", "found", "low", "high"]
theorem sc_taken_from : FnScope N_taken_from ["ends", "begin", "mass"] (defScope st_taken_from) := ⟨rfl, rfl, rfl, by decide +kernel, rfl, by decide +kernel, by decide +kernel⟩
abbrev st_worth_of : Stmt := top 32
abbrev N_worth_of : List Str := ["taken", "other", "mass", "part"]
theorem sc_worth_of : FnScope N_worth_of ["taken", "other"] (defScope st_worth_of) := ⟨rfl, rfl, rfl, by decide +kernel, rfl, by decide +kernel, by decide +kernel⟩
abbrev st_begins_of : Stmt := top 33
abbrev N_begins_of : List Str := ["ends", "mass", "last", "found", "end", "number", "kept", "rising", "least"]
theorem sc_begins_of : FnScope N_begins_of ["ends", "mass"] (defScope st_begins_of) := ⟨rfl, rfl, rfl, by decide +kernel, rfl, by decide +kernel, by decide +kernel⟩
abbrev st_stretch_of : Stmt := top 34
abbrev N_stretch_of : List Str := ["ends", "other", "mass", "goal", "begins", "near", "far", "low", "high", "share"]
theorem sc_stretch_of : FnScope N_stretch_of ["ends", "other", "mass", "goal"] (defScope st_stretch_of) := ⟨rfl, rfl, rfl, by decide +kernel, rfl, by decide +kernel, by decide +kernel⟩
abbrev st_splitting_of : Stmt := top 35
abbrev N_splitting_of : List Str := ["guess", "other", "chance", "worth", "masses", "found", "taken", "less", "mass"]
theorem sc_splitting_of : FnScope N_splitting_of ["guess", "other"] (defScope st_splitting_of) := ⟨rfl, rfl, rfl, by decide +kernel, rfl, by decide +kernel, by decide +kernel⟩
abbrev st_are_chances : Stmt := top 36
abbrev N_are_chances : List Str := ["many", "value", "ratios", "number"]
theorem sc_are_chances : FnScope N_are_chances ["many", "value"] (defScope st_are_chances) := ⟨rfl, rfl, rfl, by decide +kernel, rfl, by decide +kernel, by decide +kernel⟩
abbrev st_is_splitting_of : Stmt := top 37
abbrev N_is_splitting_of : List Str := ["guess", "other", "value", "row", "part", "far", "place", "number"]
theorem sc_is_splitting_of : FnScope N_is_splitting_of ["guess", "other", "value"] (defScope st_is_splitting_of) := ⟨rfl, rfl, rfl, by decide +kernel, rfl, by decide +kernel, by decide +kernel⟩
abbrev st_splitting : Stmt := top 38
abbrev N_splitting : List Str := ["guess", "other", "near", "far"]
theorem sc_splitting : FnScope N_splitting ["guess", "other"] (defScope st_splitting) := ⟨rfl, rfl, rfl, by decide +kernel, rfl, by decide +kernel, by decide +kernel⟩
abbrev st_is_splitting : Stmt := top 39
abbrev N_is_splitting : List Str := ["guess", "other", "value", "near", "far"]
theorem sc_is_splitting : FnScope N_is_splitting ["guess", "other", "value"] (defScope st_is_splitting) := ⟨rfl, rfl, rfl, by decide +kernel, rfl, by decide +kernel, by decide +kernel⟩
abbrev st_is_hinge : Stmt := top 40
abbrev N_is_hinge : List Str := ["guess", "other", "value", "near", "far"]
theorem sc_is_hinge : FnScope N_is_hinge ["guess", "other", "value"] (defScope st_is_hinge) := ⟨rfl, rfl, rfl, by decide +kernel, rfl, by decide +kernel, by decide +kernel⟩
abbrev st__law_pot : Stmt := top 42
abbrev N__law_pot : List Str := ["script", "k", "cell"]
theorem sc__law_pot : FnScope N__law_pot ["script", "k"] (defScope st__law_pot) := ⟨rfl, rfl, rfl, by decide +kernel, rfl, by decide +kernel, by decide +kernel⟩
abbrev st__law_draw : Stmt := top 43
abbrev N__law_draw : List Str := ["pot", "size", "digit"]
theorem sc__law_draw : FnScope N__law_draw ["pot", "size"] (defScope st__law_draw) := ⟨rfl, rfl, rfl, by decide +kernel, rfl, by decide +kernel, by decide +kernel⟩
abbrev st__law_pick : Stmt := top 44
abbrev N__law_pick : List Str := ["pot", "some"]
theorem sc__law_pick : FnScope N__law_pick ["pot", "some"] (defScope st__law_pick) := ⟨rfl, rfl, rfl, by decide +kernel, rfl, by decide +kernel, by decide +kernel⟩
abbrev st__law_joined : Stmt := top 45
abbrev N__law_joined : List Str := ["pairs", "worths", "at", "chance", "more", "one", "other", "worth"]
theorem sc__law_joined : FnScope N__law_joined ["pairs"] (defScope st__law_joined) := ⟨rfl, rfl, rfl, by decide +kernel, rfl, by decide +kernel, by decide +kernel⟩
abbrev st__law_spread_out : Stmt := top 46
abbrev N__law_spread_out : List Str := ["pot", "guess", "most", "found", "chance", "worth", "low", "high"]
theorem sc__law_spread_out : FnScope N__law_spread_out ["pot", "guess", "most"] (defScope st__law_spread_out) := ⟨rfl, rfl, rfl, by decide +kernel, rfl, by decide +kernel, by decide +kernel⟩
abbrev st__law_guess : Stmt := top 47
abbrev N__law_guess : List Str := ["pot", "most", "found", "turn"]
theorem sc__law_guess : FnScope N__law_guess ["pot", "most"] (defScope st__law_guess) := ⟨rfl, rfl, rfl, by decide +kernel, rfl, by decide +kernel, by decide +kernel⟩
abbrev st__law_handed : Stmt := top 48
abbrev N__law_handed : List Str := ["guess", "chance", "worth"]
theorem sc__law_handed : FnScope N__law_handed ["guess"] (defScope st__law_handed) := ⟨rfl, rfl, rfl, by decide +kernel, rfl, by decide +kernel, by decide +kernel⟩
abbrev st__law_above : Stmt := top 49
abbrev N__law_above : List Str := ["guess", "number", "chance", "worth"]
theorem sc__law_above : FnScope N__law_above ["guess", "number"] (defScope st__law_above) := ⟨rfl, rfl, rfl, by decide +kernel, rfl, by decide +kernel, by decide +kernel⟩
abbrev st__law_is_hinge : Stmt := top 50
abbrev N__law_is_hinge : List Str := ["guess", "other", "number"]
theorem sc__law_is_hinge : FnScope N__law_is_hinge ["guess", "other", "number"] (defScope st__law_is_hinge) := ⟨rfl, rfl, rfl, by decide +kernel, rfl, by decide +kernel, by decide +kernel⟩
abbrev st__law_has_hinge : Stmt := top 51
abbrev N__law_has_hinge : List Str := ["guess", "other", "chance", "worth"]
theorem sc__law_has_hinge : FnScope N__law_has_hinge ["guess", "other"] (defScope st__law_has_hinge) := ⟨rfl, rfl, rfl, by decide +kernel, rfl, by decide +kernel, by decide +kernel⟩
abbrev st__law_is_number : Stmt := top 52
abbrev N__law_is_number : List Str := ["value"]
theorem sc__law_is_number : FnScope N__law_is_number ["value"] (defScope st__law_is_number) := ⟨rfl, rfl, rfl, by decide +kernel, rfl, by decide +kernel, by decide +kernel⟩
abbrev st__law_is_splitting : Stmt := top 53
abbrev N__law_is_splitting : List Str := ["guess", "other", "value", "chance", "worth", "row", "ratios", "far", "more", "at", "one"]
theorem sc__law_is_splitting : FnScope N__law_is_splitting ["guess", "other", "value"] (defScope st__law_is_splitting) := ⟨rfl, rfl, rfl, by decide +kernel, rfl, by decide +kernel, by decide +kernel⟩
abbrev st__law_even : Stmt := top 54
abbrev N__law_even : List Str := ["guess", "other", "far", "more", "part"]
theorem sc__law_even : FnScope N__law_even ["guess", "other"] (defScope st__law_even) := ⟨rfl, rfl, rfl, by decide +kernel, rfl, by decide +kernel, by decide +kernel⟩
abbrev st__law_bent_row : Stmt := top 55
abbrev N__law_bent_row : List Str := ["pot", "row", "found", "way", "at", "to"]
theorem sc__law_bent_row : FnScope N__law_bent_row ["pot", "row"] (defScope st__law_bent_row) := ⟨rfl, rfl, rfl, by decide +kernel, rfl, by decide +kernel, by decide +kernel⟩
abbrev st__law_bent : Stmt := top 56
abbrev N__law_bent : List Str := ["pot", "value", "found", "way", "at", "row"]
theorem sc__law_bent : FnScope N__law_bent ["pot", "value"] (defScope st__law_bent) := ⟨rfl, rfl, rfl, by decide +kernel, rfl, by decide +kernel, by decide +kernel⟩
abbrev st__law_out : Stmt := top 57
abbrev N__law_out : List Str := ["row", "other", "much", "low", "high"]
theorem sc__law_out : FnScope N__law_out ["row", "other", "much"] (defScope st__law_out) := ⟨rfl, rfl, rfl, by decide +kernel, rfl, by decide +kernel, by decide +kernel⟩
abbrev st__law_splittings_right : Stmt := top 58
abbrev N__law_splittings_right : List Str := ["pot", "guess", "other", "near", "far", "told", "even", "values", "base", "turn", "value", "shown", "left", "one", "right", "row", "two"]
theorem sc__law_splittings_right : FnScope N__law_splittings_right ["pot", "guess", "other"] (defScope st__law_splittings_right) := ⟨rfl, rfl, rfl, by decide +kernel, rfl, by decide +kernel, by decide +kernel⟩
abbrev st__law_hinges_right : Stmt := top 59
abbrev N__law_hinges_right : List Str := ["pot", "guess", "other", "near", "far", "values", "turn", "chance", "worth", "value", "due"]
theorem sc__law_hinges_right : FnScope N__law_hinges_right ["pot", "guess", "other"] (defScope st__law_hinges_right) := ⟨rfl, rfl, rfl, by decide +kernel, rfl, by decide +kernel, by decide +kernel⟩
abbrev st_law : Stmt := top 60
abbrev N_law : List Str := ["script", "pot", "one", "other"]
theorem sc_law : FnScope N_law ["script"] (defScope st_law) := ⟨rfl, rfl, rfl, by decide +kernel, rfl, by decide +kernel, by decide +kernel⟩
end Gw
set_option maxHeartbeats 0
namespace Gw
open PySem PySem.Spec PyProof.Rows L2 He
def d_is_integer : DefD := ⟨("is_integer", none), "is_integer", "is_integer", defArgs st_is_integer, defBody st_is_integer, defScope st_is_integer, [], []⟩
def d_is_list : DefD := ⟨("is_list", none), "is_list", "is_list", defArgs st_is_list, defBody st_is_list, defScope st_is_list, [], []⟩
def d_digits_of : DefD := ⟨("digits_of", none), "digits_of", "digits_of", defArgs st_digits_of, defBody st_digits_of, defScope st_digits_of, [], []⟩
def d_divisor_of : DefD := ⟨("divisor_of", none), "divisor_of", "divisor_of", defArgs st_divisor_of, defBody st_divisor_of, defScope st_divisor_of, [], []⟩
def d_told_pair : DefD := ⟨("told_pair", none), "told_pair", "told_pair", defArgs st_told_pair, defBody st_told_pair, defScope st_told_pair, [], []⟩
def d_is_number : DefD := ⟨("is_number", none), "is_number", "is_number", defArgs st_is_number, defBody st_is_number, defScope st_is_number, [], []⟩
def d_ratio_of : DefD := ⟨("ratio_of", none), "ratio_of", "ratio_of", defArgs st_ratio_of, defBody st_ratio_of, defScope st_ratio_of, [], []⟩
def d_want_number : DefD := ⟨("want_number", none), "want_number", "want_number", defArgs st_want_number, defBody st_want_number, defScope st_want_number, [], []⟩
def d_total_of : DefD := ⟨("total_of", none), "total_of", "total_of", defArgs st_total_of, defBody st_total_of, defScope st_total_of, [], []⟩
def d_is_part : DefD := ⟨("is_part", none), "is_part", "is_part", defArgs st_is_part, defBody st_is_part, defScope st_is_part, [], []⟩
def d_guess_in : DefD := ⟨("guess_in", none), "guess_in", "guess_in", defArgs st_guess_in, defBody st_guess_in, defScope st_guess_in, [], []⟩
def d_want_guess : DefD := ⟨("want_guess", none), "want_guess", "want_guess", defArgs st_want_guess, defBody st_want_guess, defScope st_want_guess, [], []⟩
def d_above : DefD := ⟨("above", none), "above", "above", defArgs st_above, defBody st_above, defScope st_above, [], []⟩
def d_is_hinge_of : DefD := ⟨("is_hinge_of", none), "is_hinge_of", "is_hinge_of", defArgs st_is_hinge_of, defBody st_is_hinge_of, defScope st_is_hinge_of, [], []⟩
def d_hinge_of : DefD := ⟨("hinge_of", none), "hinge_of", "hinge_of", defArgs st_hinge_of, defBody st_hinge_of, defScope st_hinge_of, [], []⟩
def d_ends_of : DefD := ⟨("ends_of", none), "ends_of", "ends_of", defArgs st_ends_of, defBody st_ends_of, defScope st_ends_of, [], []⟩
def d_lesser : DefD := ⟨("lesser", none), "lesser", "lesser", defArgs st_lesser, defBody st_lesser, defScope st_lesser, [], []⟩
def d_greater : DefD := ⟨("greater", none), "greater", "greater", defArgs st_greater, defBody st_greater, defScope st_greater, [], []⟩
def d_taken_from : DefD := ⟨("taken_from", none), "taken_from", "taken_from", defArgs st_taken_from, defBody st_taken_from, defScope st_taken_from, [], []⟩
def d_worth_of : DefD := ⟨("worth_of", none), "worth_of", "worth_of", defArgs st_worth_of, defBody st_worth_of, defScope st_worth_of, [], []⟩
def d_begins_of : DefD := ⟨("begins_of", none), "begins_of", "begins_of", defArgs st_begins_of, defBody st_begins_of, defScope st_begins_of, [], []⟩
def d_stretch_of : DefD := ⟨("stretch_of", none), "stretch_of", "stretch_of", defArgs st_stretch_of, defBody st_stretch_of, defScope st_stretch_of, [], []⟩
def d_splitting_of : DefD := ⟨("splitting_of", none), "splitting_of", "splitting_of", defArgs st_splitting_of, defBody st_splitting_of, defScope st_splitting_of, [], []⟩
def d_are_chances : DefD := ⟨("are_chances", none), "are_chances", "are_chances", defArgs st_are_chances, defBody st_are_chances, defScope st_are_chances, [], []⟩
def d_is_splitting_of : DefD := ⟨("is_splitting_of", none), "is_splitting_of", "is_splitting_of", defArgs st_is_splitting_of, defBody st_is_splitting_of, defScope st_is_splitting_of, [], []⟩
def d_splitting : DefD := ⟨("splitting", none), "splitting", "splitting", defArgs st_splitting, defBody st_splitting, defScope st_splitting, [], []⟩
def d_is_splitting : DefD := ⟨("is_splitting", none), "is_splitting", "is_splitting", defArgs st_is_splitting, defBody st_is_splitting, defScope st_is_splitting, [], []⟩
def d_is_hinge : DefD := ⟨("is_hinge", none), "is_hinge", "is_hinge", defArgs st_is_hinge, defBody st_is_hinge, defScope st_is_hinge, [], []⟩
def d__law_pot : DefD := ⟨("_law_pot", none), "_law_pot", "_law_pot", defArgs st__law_pot, defBody st__law_pot, defScope st__law_pot, [], []⟩
def d__law_draw : DefD := ⟨("_law_draw", none), "_law_draw", "_law_draw", defArgs st__law_draw, defBody st__law_draw, defScope st__law_draw, [], []⟩
def d__law_pick : DefD := ⟨("_law_pick", none), "_law_pick", "_law_pick", defArgs st__law_pick, defBody st__law_pick, defScope st__law_pick, [], []⟩
def d__law_joined : DefD := ⟨("_law_joined", none), "_law_joined", "_law_joined", defArgs st__law_joined, defBody st__law_joined, defScope st__law_joined, [], []⟩
def d__law_spread_out : DefD := ⟨("_law_spread_out", none), "_law_spread_out", "_law_spread_out", defArgs st__law_spread_out, defBody st__law_spread_out, defScope st__law_spread_out, [], []⟩
def d__law_guess : DefD := ⟨("_law_guess", none), "_law_guess", "_law_guess", defArgs st__law_guess, defBody st__law_guess, defScope st__law_guess, [], []⟩
def d__law_handed : DefD := ⟨("_law_handed", none), "_law_handed", "_law_handed", defArgs st__law_handed, defBody st__law_handed, defScope st__law_handed, [], []⟩
def d__law_above : DefD := ⟨("_law_above", none), "_law_above", "_law_above", defArgs st__law_above, defBody st__law_above, defScope st__law_above, [], []⟩
def d__law_is_hinge : DefD := ⟨("_law_is_hinge", none), "_law_is_hinge", "_law_is_hinge", defArgs st__law_is_hinge, defBody st__law_is_hinge, defScope st__law_is_hinge, [], []⟩
def d__law_has_hinge : DefD := ⟨("_law_has_hinge", none), "_law_has_hinge", "_law_has_hinge", defArgs st__law_has_hinge, defBody st__law_has_hinge, defScope st__law_has_hinge, [], []⟩
def d__law_is_number : DefD := ⟨("_law_is_number", none), "_law_is_number", "_law_is_number", defArgs st__law_is_number, defBody st__law_is_number, defScope st__law_is_number, [], []⟩
def d__law_is_splitting : DefD := ⟨("_law_is_splitting", none), "_law_is_splitting", "_law_is_splitting", defArgs st__law_is_splitting, defBody st__law_is_splitting, defScope st__law_is_splitting, [], []⟩
def d__law_even : DefD := ⟨("_law_even", none), "_law_even", "_law_even", defArgs st__law_even, defBody st__law_even, defScope st__law_even, [], []⟩
def d__law_bent_row : DefD := ⟨("_law_bent_row", none), "_law_bent_row", "_law_bent_row", defArgs st__law_bent_row, defBody st__law_bent_row, defScope st__law_bent_row, [], []⟩
def d__law_bent : DefD := ⟨("_law_bent", none), "_law_bent", "_law_bent", defArgs st__law_bent, defBody st__law_bent, defScope st__law_bent, [], []⟩
def d__law_out : DefD := ⟨("_law_out", none), "_law_out", "_law_out", defArgs st__law_out, defBody st__law_out, defScope st__law_out, [], []⟩
def d__law_splittings_right : DefD := ⟨("_law_splittings_right", none), "_law_splittings_right", "_law_splittings_right", defArgs st__law_splittings_right, defBody st__law_splittings_right, defScope st__law_splittings_right, [], []⟩
def d__law_hinges_right : DefD := ⟨("_law_hinges_right", none), "_law_hinges_right", "_law_hinges_right", defArgs st__law_hinges_right, defBody st__law_hinges_right, defScope st__law_hinges_right, [], []⟩
def d_law : DefD := ⟨("law", none), "law", "law", defArgs st_law, defBody st_law, defScope st_law, [], []⟩
def d_R__init__ : DefD := ⟨("Ratio", some "__init__"), "__init__", "Ratio.__init__", defArgs st_R__init__, defBody st_R__init__, defScope st_R__init__, [.int 1], []⟩
def d_R__add__ : DefD := ⟨("Ratio", some "__add__"), "__add__", "Ratio.__add__", defArgs st_R__add__, defBody st_R__add__, defScope st_R__add__, [], []⟩
def d_R__sub__ : DefD := ⟨("Ratio", some "__sub__"), "__sub__", "Ratio.__sub__", defArgs st_R__sub__, defBody st_R__sub__, defScope st_R__sub__, [], []⟩
def d_R__rsub__ : DefD := ⟨("Ratio", some "__rsub__"), "__rsub__", "Ratio.__rsub__", defArgs st_R__rsub__, defBody st_R__rsub__, defScope st_R__rsub__, [], []⟩
def d_R__mul__ : DefD := ⟨("Ratio", some "__mul__"), "__mul__", "Ratio.__mul__", defArgs st_R__mul__, defBody st_R__mul__, defScope st_R__mul__, [], []⟩
def d_Rover : DefD := ⟨("Ratio", some "over"), "over", "Ratio.over", defArgs st_Rover, defBody st_Rover, defScope st_Rover, [], []⟩
def d_Ris_below : DefD := ⟨("Ratio", some "is_below"), "is_below", "Ratio.is_below", defArgs st_Ris_below, defBody st_Ris_below, defScope st_Ris_below, [], []⟩
def d_R__eq__ : DefD := ⟨("Ratio", some "__eq__"), "__eq__", "Ratio.__eq__", defArgs st_R__eq__, defBody st_R__eq__, defScope st_R__eq__, [], []⟩
def d_Ris_at_most : DefD := ⟨("Ratio", some "is_at_most"), "is_at_most", "Ratio.is_at_most", defArgs st_Ris_at_most, defBody st_Ris_at_most, defScope st_Ris_at_most, [], []⟩
def d_R__repr__ : DefD := ⟨("Ratio", some "__repr__"), "__repr__", "Ratio.__repr__", defArgs st_R__repr__, defBody st_R__repr__, defScope st_R__repr__, [], []⟩
def d_R__neg__ : DefD := ⟨("Ratio", some "__neg__"), "__neg__", "Ratio.__neg__", defArgs st_R__neg__, defBody st_R__neg__, defScope st_R__neg__, [], []⟩
def d_R__str__ : DefD := ⟨("Ratio", some "__str__"), "__str__", "Ratio.__str__", defArgs st_R__str__, defBody st_R__str__, defScope st_R__str__, [], []⟩
def a_Rsign : DefA := ⟨fun K => recAd K (ma K (cRat K) "sign") "property", "sign", "Ratio.sign", defArgs st_Rsign, defBody st_Rsign, defScope st_Rsign⟩
def a_Rtop : DefA := ⟨fun K => recAd K (ma K (cRat K) "top") "property", "top", "Ratio.top", defArgs st_Rtop, defBody st_Rtop, defScope st_Rtop⟩
def a_Rtotal : DefA := ⟨fun K => recAd K (ma K (cRat K) "total") "classmethod", "total", "Ratio.total", defArgs st_Rtotal, defBody st_Rtotal, defScope st_Rtotal⟩
def hFn0 : List DefD := [d_is_integer, d_is_list, d_digits_of, d_divisor_of, d_told_pair, d_is_number, d_ratio_of, d_want_number, d_total_of, d_is_part, d_guess_in, d_want_guess, d_above, d_is_hinge_of, d_hinge_of, d_ends_of, d_lesser, d_greater, d_taken_from, d_worth_of]
def hFn1 : List DefD := [d_begins_of, d_stretch_of, d_splitting_of, d_are_chances, d_is_splitting_of, d_splitting, d_is_splitting, d_is_hinge, d__law_pot, d__law_draw, d__law_pick, d__law_joined, d__law_spread_out, d__law_guess, d__law_handed, d__law_above, d__law_is_hinge, d__law_has_hinge, d__law_is_number, d__law_is_splitting]
def hFn2 : List DefD := [d__law_even, d__law_bent_row, d__law_bent, d__law_out, d__law_splittings_right, d__law_hinges_right, d_law, d_R__init__, d_R__add__, d_R__sub__, d_R__rsub__, d_R__mul__, d_Rover, d_Ris_below, d_R__eq__, d_Ris_at_most, d_R__repr__, d_R__neg__, d_R__str__]
def hFn : List DefD := hFn0 ++ hFn1 ++ hFn2
def hFa0 : List Fa := [.glo "is_integer", .glo "is_list", .glo "digits_of", .glo "divisor_of", .glo "told_pair", .glo "is_number", .glo "ratio_of", .glo "want_number", .glo "total_of", .glo "is_part", .glo "guess_in", .glo "want_guess", .glo "above", .glo "is_hinge_of", .glo "hinge_of", .glo "ends_of", .glo "lesser", .glo "greater", .glo "taken_from", .glo "worth_of"]
def hFa1 : List Fa := [.glo "begins_of", .glo "stretch_of", .glo "splitting_of", .glo "are_chances", .glo "is_splitting_of", .glo "splitting", .glo "is_splitting", .glo "is_hinge", .glo "_law_pot", .glo "_law_draw", .glo "_law_pick", .glo "_law_joined", .glo "_law_spread_out", .glo "_law_guess", .glo "_law_handed", .glo "_law_above", .glo "_law_is_hinge", .glo "_law_has_hinge", .glo "_law_is_number", .glo "_law_is_splitting"]
def hFa2 : List Fa := [.glo "_law_even", .glo "_law_bent_row", .glo "_law_bent", .glo "_law_out", .glo "_law_splittings_right", .glo "_law_hinges_right", .glo "law", .free "isinstance", .free "int", .free "bool", .free "list", .free "tuple", .free "len", .free "all", .free "any", .free "sum", .free "zip", .free "enumerate", .free "range", .free "abs"]
def hFa3 : List Fa := [.free "max", .free "divmod", .free "min", .free "sorted", .free "repr", .free "str", .int "MOST_PARTS" 4, .int "PART" 1000000000000000000000000000000000000000000000000000000000000, .glo "Ratio", .cls "Ratio", .noat "Ratio" "own_top", .noat "Ratio" "own_bottom", .mkr "Ratio", .meth "Ratio" "over", .meth "Ratio" "is_below", .meth "Ratio" "is_at_most"]
def hFa : List Fa := hFa0 ++ hFa1 ++ hFa2 ++ hFa3
def hDa : List DefA := [a_Rsign, a_Rtop, a_Rtotal]
def xRepr (K : PySem.W.Frag) : Bool := eqO (PySem.W.findIn K (.ref (cRat K)) "__repr__") (some (some (.ref (ma K (cRat K) "__repr__")))) && PySem.W.isFn K (.ref (ma K (cRat K) "__repr__"))
def xRatD (K : PySem.W.Frag) : Bool := ((["NoneType", "bool", "int", "str", "dict", "list", "tuple"] : List String).all fun n => decide (PySem.W.kitOne K (.type n) (.ref (cRat K)) = some false)) && ((["bool", "int", "str", "dict", "list", "tuple"] : List String).all fun n => decide (PySem.W.kitOne K (.ref (cRat K)) (.type n) = some false))
def xSpM (K : PySem.W.Frag) (m : Str) : Bool := eqO (PySem.W.findIn K (.ref (cRat K)) m) (some (some (.ref (ma K (cRat K) m)))) && PySem.W.isFn K (.ref (ma K (cRat K) m))
def hEx (K : PySem.W.Frag) : Bool := eqO (PySem.W.nsIn K mainGlobals "gcd") (some (some (.builtin "math.gcd"))) && (xRat K && (xOp K .Add "__add__" "__radd__" && (xOp K .Sub "__sub__" "__rsub__" && (xOp K .Mult "__mul__" "__rmul__" && (xEq K && (xRepr K && (xRatD K && (xSpM K "__str__" && (xSpM K "__neg__" && (xProp K "sign" && (xProp K "top" && (xCm K "total"))))))))))))
def hLoose0 : List Str := ["_wall", "__name__", "WalkError", "ValueError", "InvalidNumber", "DividedByZero", "InvalidGuess", "is_integer", "is_list", "PART", "digits_of", "divisor_of", "Ratio", "told_pair", "is_number", "ratio_of", "want_number", "total_of", "MOST_PARTS", "is_part"]
def hLoose1 : List Str := ["guess_in", "want_guess", "above", "is_hinge_of", "hinge_of", "ends_of", "lesser", "greater", "taken_from", "worth_of", "begins_of", "stretch_of", "splitting_of", "are_chances", "is_splitting_of", "splitting", "is_splitting", "is_hinge", "_law_pot", "_law_draw"]
def hLoose2 : List Str := ["_law_pick", "_law_joined", "_law_spread_out", "_law_guess", "_law_handed", "_law_above", "_law_is_hinge", "_law_has_hinge", "_law_is_number", "_law_is_splitting", "_law_even", "_law_bent_row", "_law_bent", "_law_out", "_law_splittings_right", "_law_hinges_right"]
def hLoose : List Str := hLoose0 ++ hLoose1 ++ hLoose2
abbrev hR : PySem.W.OpenRow := PySem.W.OpenLaw.row PySem.Challenge.rw_walkworths_k82_any_value_as_splitting_or
abbrev hk : PySem.W.Hook := hookA 1000 hFa hFn hDa hEx
def hOb (s : PySem.W.SharedT) : AlG := obsAG 1000 hFa hFn hDa hEx (HandSHeadRun.getT s)
theorem hOb_eq (s : PySem.W.SharedT) : hOb s = hk.obs s.abs := obsAG_eq (HandSHeadRun.getT_eq s)
theorem hRun (w : World) : HandSHeadRun.RunEqI hR (PySem.W.view hR.prog [0, 60]) hk hOb 20000 hLoose w := by
  unfold HandSHeadRun.RunEqI
  kernel_rfl
end Gw
set_option maxHeartbeats 4000000
namespace Gw
open PySem PySem.Spec PyProof.Rows L2
section
variable {X : Cx} {E : En} {G : List Sl} {e : Expr} {st : Stmt} {Ra Rb : V → Hp → Prop} {Rm Rl : List V → Hp → Prop} {Rt : V → Hp → Hp → Prop} {K : PySem.W.Frag}
/-- a, xs = value, new list: through the pair, as cells are stored -/
theorem js_asgFM {i j : Nat} (hij : i ≠ j) (p : PS X st (tAsg (tTup (tCons (tE E G Ra) (tCons (tM E G Rm) tNil))) (gTup K 2 (gCons (gName i) (gCons (gName j) gNil))))) : PS X st (tS E G Rt (· = (G.set i (.fz Ra)).set j (.mt Rm))) := PS_imp p fun D σ H ⟨F, S, kn, kr⟩ =>
  ⟨F, S, fun v F1 H1 g1 u1 => ⟨F1, S.gr g1, fun q ws F2 H2 g2 n1 n2 n3 u2 => ⟨by show 2 ≤ sizeLine; decide, fun t ht => by
    have g3 := Gr.raw (o := HO.tup [v, .ref q]) g2.ok ht
    have qt : q ≠ t := ne_of_none n3 ht
    refine ⟨t, [v, .ref q], rfl, .inl (.inl upd_same), rfl, _, _, rfl, _, _, rfl, rfl, ?_⟩
    refine kn _ _ F2 _ rfl (((S.gr ((g1.trans g2).trans g3)).set_fz (u1.mono g2.f)).set_mt n2 ((S.gr g1).bs.back n1) (by rw [upd_ne qt]; exact n3) u2 fun k Rk hk hG hs => ?_) (g1.trans g2).f
    by_cases z : k = i
    · subst z
      have hl : k < G.length := by
        have := (List.getElem?_eq_some_iff.mp hG).1
        simpa using this
      rw [List.getElem?_set_self hl] at hG
      cases hG
    · rw [List.getElem?_set_ne (Ne.symm z)] at hG hs
      exact fresh_mt (S.gr g1) n1 hG hs⟩⟩⟩
theorem js_asgMM {i j : Nat} (hij : i ≠ j) (p : PS X st (tAsg (tTup (tCons (tM E G Rm) (tCons (tM E G Rl) tNil))) (gTup K 2 (gCons (gName i) (gCons (gName j) gNil))))) : PS X st (tS E G Rt (· = (G.set i (.mt Rm)).set j (.mt Rl))) := PS_imp p fun D σ H ⟨F, S, kn, kr⟩ =>
  ⟨F, S, fun q ws F1 H1 g1 n1 n2 n3 u1 => ⟨F1, S.gr g1, fun q' ws' F2 H2 g2 m1 m2 m3 u2 => ⟨by show 2 ≤ sizeLine; decide, fun t ht => by
    have g3 := Gr.raw (o := HO.tup [.ref q, .ref q']) g2.ok ht
    have nq : q ≠ q' := ne_of_none n3 m1
    have np : E.pp ≠ some q := fun z => by
      obtain ⟨_, x, y, h2, _⟩ := S.ok.p q z
      rw [n1] at h2
      cases h2
    have f2 : F2 q = none := by
      cases z : F2 q with
      | none => rfl
      | some o =>
        rcases g2.n q o z with w | w
        · rw [n2] at w; cases w
        · rw [n3] at w; cases w
    have h2q := g2.k q _ n3 np
    have qt : q ≠ t := ne_of_none h2q ht
    have qt' : q' ≠ t := ne_of_none m3 ht
    refine ⟨t, [.ref q, .ref q'], rfl, .inl (.inl upd_same), rfl, _, _, rfl, _, _, rfl, rfl, ?_⟩
    have S1 := (S.gr ((g1.trans g2).trans g3)).set_mt (i := i) f2 (S.bs.back n1) (by rw [upd_ne qt]; exact h2q) (u1.mono g2.f) fun k Rk hk hG hs => fresh_mt S n1 hG hs
    refine kn _ _ F2 _ rfl (S1.set_mt m2 ((S.gr g1).bs.back m1) (by rw [upd_ne qt']; exact m3) u2 fun k Rk hk hG hs => ?_) (g1.trans g2).f
    by_cases z : k = i
    · subst z
      have hl : k < σ.length := by
        have := (List.getElem?_eq_some_iff.mp hs).1
        simpa using this
      rw [List.getElem?_set_self hl] at hs
      cases hs
      exact nq rfl
    · rw [List.getElem?_set_ne (Ne.symm z)] at hG hs
      exact fresh_mt (S.gr g1) m1 hG hs⟩⟩⟩
/-- a test that reads a list that may still turn -/
theorem jt_view {i : Nat} {b : Bool} (hG : G[i]? = some (.mt Rm)) (p : PT X e (tT E (G.set i (.fz (LstOf Rm))) b)) : PT X e (tT E G b) := PT_imp p fun σ H Q ⟨F, S, k⟩ => by
  obtain ⟨p, vs, e, h1, h2, h3, h4, S'⟩ := S.freeze hG
  exact ⟨_, S', fun F2 H2 g => k _ H2 (hide_gr S.ok h1 h3 g)⟩
/-- another object of this def's own turns -/
theorem Sat.poke {σ : L2.St} {F H : Hp} (S : Sat E G σ F H) {q : Addr} {o : HO} (hF : F q = none) (hE : E.H q = none) (hm : ∀ (i : Nat) (R : List V → Hp → Prop), G[i]? = some (.mt R) → σ[i]? ≠ some (some (.ref q))) : Sat E G σ F (upd H q o) where
  len := S.len
  bs := {
    f := S.bs.f
    s := fun a o q' => by
      have ne : a ≠ q := fun z => by rw [z, hF] at q'; cases q'
      rw [upd_ne ne]
      exact S.bs.s a o q'
    k := fun a o q' hp => by
      have ne : a ≠ q := fun z => by rw [z, hE] at q'; cases q'
      rw [upd_ne ne]
      exact S.bs.k a o q' hp
    n := S.bs.n
    p := fun a ha => by
      obtain ⟨q1, x, y, q2, q3⟩ := S.bs.p a ha
      have ne : a ≠ q := fun z => S.npot hE (by rw [← z]; exact ha)
      exact ⟨q1, x, y, by rw [upd_ne ne]; exact q2, q3⟩ }
  p0 := S.p0
  fz := S.fz
  mt := fun i R h => by
    obtain ⟨p, vs, e, h1, h2, h3, h4⟩ := S.mt i R h
    have ne : p ≠ q := fun z => hm i R h (by rw [← z]; exact e)
    exact ⟨p, vs, e, h1, h2, by rw [upd_ne ne]; exact h3, h4⟩
  ap := S.ap
  pt := S.pt
end
theorem isU_ints {ms : List Nat} {vs : List V} {F : Hp} (h : LsOf IsU ms vs F) : LsOf IsI (ms.map fun (n : Nat) => (n : Int)) vs F := by
  unfold LsOf at h ⊢
  induction h with
  | nil => exact .nil
  | cons r t ih => exact .cons r ih
theorem isU_lst {ms : List Nat} : ∀ v F, IsL IsU ms v F → IsL IsI (ms.map fun (n : Nat) => (n : Int)) v F := fun v F ⟨a, vs, e, h, u⟩ => ⟨a, vs, e, h, u.imp fun F q => isU_ints q⟩
end Gw
/-! Plain facts of rational numbers, as the text computes them. -/
namespace Gw
theorem q_den0 (q : Rat) : (q.den : Int) ≠ 0 := by
  have := q.den_nz
  omega
theorem q_self (q : Rat) : Rat.divInt q.num (q.den : Int) = q := Rat.num_divInt_den q
theorem q_add (q r : Rat) : Rat.divInt (q.num * r.den + r.num * q.den) (q.den * r.den) = q + r := by
  rw [← Rat.divInt_add_divInt _ _ (q_den0 q) (q_den0 r), q_self, q_self]
theorem q_sub (q r : Rat) : Rat.divInt (q.num * r.den - r.num * q.den) (q.den * r.den) = q - r := by
  rw [← Rat.divInt_sub_divInt _ _ (q_den0 q) (q_den0 r), q_self, q_self]
theorem q_rsub (q r : Rat) : Rat.divInt (r.num * q.den - q.num * r.den) (q.den * r.den) = r - q := by
  rw [← q_sub r q, Int.mul_comm (q.den : Int)]
theorem q_mul (q r : Rat) : Rat.divInt (q.num * r.num) (q.den * r.den) = q * r := by
  rw [← Rat.divInt_mul_divInt, q_self, q_self]
theorem q_over (q r : Rat) : Rat.divInt (q.num * r.den) (q.den * r.num) = q / r := by
  rw [← Rat.divInt_mul_divInt, q_self, Rat.div_def]
  congr 1
  rw [← Rat.inv_divInt, q_self]
theorem q_lt (q r : Rat) : decide (q.num * r.den < r.num * q.den) = decide (q < r) := by
  rw [decide_eq_decide]
  exact (Rat.lt_iff q r).symm
theorem q_eq (q r : Rat) : (decide (q.num = r.num) && decide ((q.den : Int) = r.den)) = decide (q = r) := by
  rw [← Bool.decide_and, decide_eq_decide]
  constructor
  · rintro ⟨h1, h2⟩
    exact Rat.ext h1 (by omega)
  · rintro rfl
    exact ⟨rfl, rfl⟩
theorem q_sgn (q : Rat) : ((if decide ((0 : Int) < q.num) = true then (1 : Int) else 0) - (if decide (q.num < 0) = true then (1 : Int) else 0)) = q.num.sign := by
  rcases Int.lt_trichotomy q.num 0 with h | h | h
  · rw [Int.sign_eq_neg_one_of_neg h]
    simp [h, Int.lt_asymm h]
  · rw [h]; rfl
  · rw [Int.sign_eq_one_of_pos h]
    simp [h, Int.lt_asymm h]
theorem q_sgn_pos (q : Rat) : decide ((0 : Int) < q.num.sign) = decide (0 < q) := by
  rw [decide_eq_decide, Int.sign_pos_iff]
  rw [Rat.lt_iff]
  simp
theorem q_sgn_nn (q : Rat) : decide ((0 : Int) ≤ q.num.sign) = decide (0 ≤ q) := by
  rw [decide_eq_decide]
  rw [← Rat.num_nonneg]
  constructor
  · intro h
    rcases Int.lt_trichotomy q.num 0 with h2 | h2 | h2
    · rw [Int.sign_eq_neg_one_of_neg h2] at h; omega
    · omega
    · omega
  · intro h
    rcases Int.lt_trichotomy q.num 0 with h2 | h2 | h2
    · omega
    · rw [h2]; decide
    · rw [Int.sign_eq_one_of_pos h2]; decide
/-- the divisor of __init__ -/
def iniC (t b : Int) : Int := if b < 0 then 0 - ((Nat.gcd t.natAbs b.natAbs : Nat) : Int) else ((Nat.gcd t.natAbs b.natAbs : Nat) : Int)
theorem gcd_pos' (t b : Int) (hb : b ≠ 0) : 0 < ((Nat.gcd t.natAbs b.natAbs : Nat) : Int) := by
  have : 0 < Nat.gcd t.natAbs b.natAbs := Nat.gcd_pos_of_pos_right _ (by omega)
  omega
theorem iniC_ne (t b : Int) (hb : b ≠ 0) : iniC t b ≠ 0 := by
  have := gcd_pos' t b hb
  unfold iniC
  split <;> omega
theorem ini_top (t b : Int) (hb : b ≠ 0) : t.fdiv (iniC t b) = (Rat.divInt t b).num := by
  have hg := gcd_pos' t b hb
  have h1 : ((b.gcd t : Nat) : Int) = ((Nat.gcd t.natAbs b.natAbs : Nat) : Int) := by
    unfold Int.gcd
    rw [Nat.gcd_comm]
  have hd : ((Nat.gcd t.natAbs b.natAbs : Nat) : Int) ∣ t := by
    rw [← Int.dvd_natAbs]
    exact Int.natCast_dvd_natCast.mpr (Nat.gcd_dvd_left _ _)
  rw [Rat.num_divInt, h1]
  obtain ⟨c, hc⟩ := hd
  generalize hG : ((Nat.gcd t.natAbs b.natAbs : Nat) : Int) = g at *
  unfold iniC
  rw [hG]
  rcases Int.lt_trichotomy b 0 with h | h | h
  · rw [if_pos h, Int.sign_eq_neg_one_of_neg h, hc]
    have e1 : (g * c).fdiv (0 - g) = -c := by
      rw [show g * c = (0 - g) * (-c) by grind]
      exact Int.mul_fdiv_cancel_left _ (by omega)
    have e2 : -1 * (g * c) / g = -c := by
      rw [show -1 * (g * c) = g * (-c) by grind]
      exact Int.mul_ediv_cancel_left _ (by omega)
    rw [e1, e2]
  · exact absurd h hb
  · rw [if_neg (by omega), Int.sign_eq_one_of_pos h, hc]
    rw [Int.mul_fdiv_cancel_left _ (by omega), Int.one_mul, Int.mul_ediv_cancel_left _ (by omega)]
theorem ini_bot (t b : Int) (hb : b ≠ 0) : b.fdiv (iniC t b) = ((Rat.divInt t b).den : Int) := by
  have hg := gcd_pos' t b hb
  have h1 : b.gcd t = Nat.gcd t.natAbs b.natAbs := by
    unfold Int.gcd
    rw [Nat.gcd_comm]
  have hd : Nat.gcd t.natAbs b.natAbs ∣ b.natAbs := Nat.gcd_dvd_right _ _
  rw [Rat.den_divInt, h1, if_neg hb]
  obtain ⟨c, hc⟩ := hd
  generalize hG : Nat.gcd t.natAbs b.natAbs = g at *
  rw [hc, Nat.mul_div_cancel_left _ (by omega)]
  unfold iniC
  rw [hG]
  rcases Int.lt_trichotomy b 0 with h | h | h
  · rw [if_pos h]
    have e : b = (0 - (g : Int)) * (c : Int) := by
      have : ((b.natAbs : Nat) : Int) = (g : Int) * (c : Int) := by rw [hc]; exact Int.natCast_mul _ _
      have h2 : ((b.natAbs : Nat) : Int) = -b := by omega
      rw [h2] at this
      grind
    rw [e]
    exact Int.mul_fdiv_cancel_left _ (by omega)
  · exact absurd h hb
  · rw [if_neg (by omega)]
    have e : b = (g : Int) * (c : Int) := by
      have : ((b.natAbs : Nat) : Int) = (g : Int) * (c : Int) := by rw [hc]; exact Int.natCast_mul _ _
      have h2 : ((b.natAbs : Nat) : Int) = b := by omega
      rw [h2] at this
      exact this
    rw [e]
    exact Int.mul_fdiv_cancel_left _ (by omega)
theorem iniC_le (t b : Int) (hb : b ≠ 0) : (iniC t b).natAbs ≤ b.natAbs := by
  have h1 : Nat.gcd t.natAbs b.natAbs ≤ b.natAbs := Nat.le_of_dvd (by omega) (Nat.gcd_dvd_right _ _)
  unfold iniC
  split <;> omega
theorem log2_mono {a b : Nat} (h : a ≤ b) : a.log2 ≤ b.log2 := by
  by_cases ha : a = 0
  · rw [ha]; simp
  · rw [Nat.le_log2 (by omega)]
    exact Nat.le_trans (Nat.log2_self_le ha) h
theorem log2_lt {a n : Nat} (hn : 0 < n) (h : a < 2 ^ n) : a.log2 < n := by
  by_cases ha : a = 0
  · rw [ha]; simpa using hn
  · exact (Nat.log2_lt ha).mpr h
/-! ### sizes -/
/-- a sum, difference, product of the two is within what the text's ints bear -/
def Fits (q r : Rat) : Prop := q.den * r.den < 2 ^ 9000 ∧ q.num.natAbs < 2 ^ 20000 ∧ r.num.natAbs < 2 ^ 20000
def FitsO (q r : Rat) : Prop := r ≠ 0 ∧ q.den * r.num.natAbs < 2 ^ 9000 ∧ q.num.natAbs < 2 ^ 20000 ∧ r.den < 2 ^ 20000
theorem Fits.d1 {q r : Rat} (h : Fits q r) : q.den < 2 ^ 9000 := Nat.lt_of_le_of_lt (Nat.le_mul_of_pos_right _ r.den_pos) h.1
theorem Fits.d2 {q r : Rat} (h : Fits q r) : r.den < 2 ^ 9000 := Nat.lt_of_le_of_lt (Nat.le_mul_of_pos_left _ q.den_pos) h.1
/-- n bits at most, above and below -/
def Sz (n : Nat) (q : Rat) : Prop := q.num.natAbs < 2 ^ n ∧ q.den < 2 ^ n
theorem Sz.mono {n m : Nat} {q : Rat} (h : Sz n q) (hm : n ≤ m) : Sz m q := ⟨Nat.lt_of_lt_of_le h.1 (Nat.pow_le_pow_right (by omega) hm), Nat.lt_of_lt_of_le h.2 (Nat.pow_le_pow_right (by omega) hm)⟩
theorem Sz.fits {n m : Nat} {q r : Rat} (h : Sz n q) (k : Sz m r) (hn : n + m ≤ 9000) : Fits q r := by
  refine ⟨?_, Nat.lt_of_lt_of_le h.1 (Nat.pow_le_pow_right (by omega) (by omega)), Nat.lt_of_lt_of_le k.1 (Nat.pow_le_pow_right (by omega) (by omega))⟩
  calc q.den * r.den < 2 ^ n * 2 ^ m := Nat.mul_lt_mul'' h.2 k.2
    _ = 2 ^ (n + m) := (Nat.pow_add 2 n m).symm
    _ ≤ 2 ^ 9000 := Nat.pow_le_pow_right (by omega) hn
theorem Sz.fitsO {n m : Nat} {q r : Rat} (h : Sz n q) (k : Sz m r) (hr : r ≠ 0) (hn : n + m ≤ 9000) : FitsO q r := by
  refine ⟨hr, ?_, Nat.lt_of_lt_of_le h.1 (Nat.pow_le_pow_right (by omega) (by omega)), Nat.lt_of_lt_of_le k.2 (Nat.pow_le_pow_right (by omega) (by omega))⟩
  calc q.den * r.num.natAbs < 2 ^ n * 2 ^ m := Nat.mul_lt_mul'' h.2 k.1
    _ = 2 ^ (n + m) := (Nat.pow_add 2 n m).symm
    _ ≤ 2 ^ 9000 := Nat.pow_le_pow_right (by omega) hn
theorem num_le (t b : Int) (hb : b ≠ 0) : (Rat.divInt t b).num.natAbs ≤ t.natAbs := by
  rw [← ini_top t b hb]
  have h := iniC_ne t b hb
  have hd : iniC t b ∣ t := by
    have hd : ((Nat.gcd t.natAbs b.natAbs : Nat) : Int) ∣ t := by
      rw [← Int.dvd_natAbs]
      exact Int.natCast_dvd_natCast.mpr (Nat.gcd_dvd_left _ _)
    unfold iniC
    split
    · obtain ⟨c, hc⟩ := hd
      exact ⟨-c, by grind⟩
    · exact hd
  generalize iniC t b = z at *
  obtain ⟨c, hc⟩ := hd
  rw [hc, Int.mul_fdiv_cancel_left _ h, Int.natAbs_mul]
  exact Nat.le_mul_of_pos_left _ (by omega)
theorem den_le (t b : Int) (hb : b ≠ 0) : (Rat.divInt t b).den ≤ b.natAbs := by
  rw [Rat.den_divInt, if_neg hb]
  exact Nat.div_le_self _ _
theorem Sz.add {n m : Nat} {q r : Rat} (h : Sz n q) (k : Sz m r) : Sz (n + m + 1) (q + r) := by
  have hp : (2 : Nat) ^ (n + m + 1) = 2 * (2 ^ n * 2 ^ m) := by rw [Nat.pow_succ, Nat.pow_add]; omega
  have hb : (q.den : Int) * r.den ≠ 0 := Int.mul_ne_zero (q_den0 q) (q_den0 r)
  have a1 : q.num.natAbs * r.den < 2 ^ n * 2 ^ m := Nat.mul_lt_mul'' h.1 k.2
  have a2 : r.num.natAbs * q.den < 2 ^ n * 2 ^ m := by rw [Nat.mul_comm]; exact Nat.mul_lt_mul'' h.2 k.1
  have a3 : q.den * r.den < 2 ^ n * 2 ^ m := Nat.mul_lt_mul'' h.2 k.2
  rw [← q_add]
  constructor
  · refine Nat.lt_of_le_of_lt (num_le _ _ hb) ?_
    have := Int.natAbs_add_le (q.num * r.den) (r.num * q.den)
    rw [Int.natAbs_mul, Int.natAbs_mul] at this
    simp only [Int.natAbs_natCast] at this
    omega
  · refine Nat.lt_of_le_of_lt (den_le _ _ hb) ?_
    rw [Int.natAbs_mul]
    simp only [Int.natAbs_natCast]
    omega
theorem Sz.mul {n m : Nat} {q r : Rat} (h : Sz n q) (k : Sz m r) : Sz (n + m) (q * r) := by
  have hb : (q.den : Int) * r.den ≠ 0 := Int.mul_ne_zero (q_den0 q) (q_den0 r)
  have a1 : q.num.natAbs * r.num.natAbs < 2 ^ n * 2 ^ m := Nat.mul_lt_mul'' h.1 k.1
  have a3 : q.den * r.den < 2 ^ n * 2 ^ m := Nat.mul_lt_mul'' h.2 k.2
  rw [← q_mul]
  constructor
  · refine Nat.lt_of_le_of_lt (num_le _ _ hb) ?_
    rw [Int.natAbs_mul, Nat.pow_add]
    exact a1
  · refine Nat.lt_of_le_of_lt (den_le _ _ hb) ?_
    rw [Int.natAbs_mul, Nat.pow_add]
    simp only [Int.natAbs_natCast]
    exact a3
theorem Sz.neg {n : Nat} {q : Rat} (h : Sz n q) : Sz n (-q) := ⟨by rw [Rat.neg_num, Int.natAbs_neg]; exact h.1, by rw [Rat.neg_den]; exact h.2⟩
theorem Sz.sub {n m : Nat} {q r : Rat} (h : Sz n q) (k : Sz m r) : Sz (n + m + 1) (q - r) := by
  rw [Rat.sub_eq_add_neg]
  exact h.add k.neg
theorem Sz.int {n : Nat} (hn : 0 < n) {i : Int} (h : i.natAbs < 2 ^ n) : Sz n (i : Rat) := ⟨by rw [Rat.num_intCast]; exact h, by rw [Rat.den_intCast]; exact Nat.one_lt_two_pow (by omega)⟩
end Gw
set_option maxHeartbeats 4000000
/-! A list of lists of this def's own whose inner lists turn. -/
namespace Gw
open PySem PySem.Spec PyProof.Rows L2
theorem paired_of_get {α β : Type} {P : α → β → Prop} : ∀ {xs : List α} {ys : List β}, xs.length = ys.length → (∀ (i : Nat) (x : α) (y : β), xs[i]? = some x → ys[i]? = some y → P x y) → Paired P xs ys
  | [], [], _, _ => .nil
  | [], y :: ys, h, _ => by simp at h
  | x :: xs, [], h, _ => by simp at h
  | x :: xs, y :: ys, h, k => .cons (k 0 x y rfl rfl) (paired_of_get (by simpa using h) fun i a b ha hb => k (i + 1) a b (by simpa using ha) (by simpa using hb))
theorem gw_ixN {n j : Nat} (hj : j < n) : ixN n (j : Int) = some j := by
  unfold ixN
  rw [if_pos (by omega), if_pos (by omega)]
  simp
section
variable {X : Cx} {E : En} {G : List Sl} {α β : Type} {R : α → V → Hp → Prop} {e : Expr} {st : Stmt} {rest body : List Stmt} {pos : Pos}
/-- new lists in a new list -/
def tLM (E : En) (G : List Sl) (R : α → V → Hp → Prop) (l0 : List α) (n : Nat) : TE := fun σ H Q => ∃ F, Sat E G σ F H ∧ ∀ (p : Addr) (qs : List Addr) (F' H' : Hp), Gr E.pp F H F' H' → H p = none → F' p = none → H' p = some (.lst (qs.map V.ref)) → qs.length = n → qs.Nodup → p ∉ qs →
  (∀ q ∈ qs, H q = none ∧ F' q = none ∧ ∃ us, H' q = some (.lst us) ∧ LsOf R l0 us F') → Q (.ref p) H'
theorem lc_readM {Rx : β → V → Hp → Prop} {xs : List β} {own : List (Str × Nat)} {idx : List Nat} {f : β → List Sl → List Sl} (l0 : List α) (hidx : ∀ k ∈ idx, k ∈ own.map (·.2)) (hz : xs.length < sizeLine) {σ : L2.St} {H : Hp} {Q : VK}
    (hw : tLM E G R l0 xs.length σ H Q) : tLc (tI E G Rx xs) (fun v σ H Q => ∃ x, tG E (Rx x) idx (f x) v σ H Q) (fun σ H Q => ∃ q : { x // x ∈ xs }, tT E (f q.1 (wipeG G (own.map (·.2)))) true σ H Q)
      (fun σ H Q => ∃ q : { x // x ∈ xs }, tM E (f q.1 (wipeG G (own.map (·.2)))) (LsOf R l0) σ H Q) (own.map (·.2)) σ H Q := by
  obtain ⟨F, S, k⟩ := hw
  refine ⟨F, S, fun J F1 H1 g1 src D hD => ?_⟩
  have hD0 : H D = none := g1.back hD
  have hpD : E.pp ≠ some D := fun z => by
    obtain ⟨_, x, y, h2, _⟩ := S.ok.p D z
    rw [hD0] at h2
    cases h2
  refine ⟨fun i m H2 => m = xs.length - i ∧ i ≤ xs.length ∧ ∃ (F2 : Hp) (qs : List Addr), Gr E.pp F H F2 H2 ∧ Ex F1 F2 ∧ F2 D = none ∧ H2 D = some (.lst (qs.map V.ref)) ∧ qs.length = i ∧ qs.Nodup ∧ D ∉ qs ∧ (∀ q ∈ qs, H q = none ∧ F2 q = none ∧ ∃ us, H2 q = some (.lst us) ∧ LsOf R l0 us F2),
    ⟨xs.length, rfl, Nat.zero_le _, F1, [], g1.trans (Gr.raw g1.ok hD), Ex.refl _, g1.s.back hD, upd_same, rfl, .nil, by simp, fun q hq => by simp at hq⟩, ?_⟩
  rintro i m H2 ⟨rfl, hi', F2, qs, g2, e2, n2, d2, l2, nd2, dq2, u2⟩
  have S2 := S.gr g2
  have npq : ∀ q ∈ qs, E.pp ≠ some q := fun q hq z => by
    obtain ⟨_, x, y, h2, _⟩ := S.ok.p q z
    rw [(u2 q hq).1] at h2
    cases h2
  by_cases hlt : i < xs.length
  · have hx : xs[i]? = some xs[i] := List.getElem?_eq_getElem hlt
    have hm : xs[i] ∈ xs := List.getElem_mem hlt
    refine .inr ⟨src.go i F2 H2 hlt e2 S2.ok.s, fun H3 => ∃ (F3 : Hp) (qs' : List Addr), Gr E.pp F H F3 H3 ∧ Ex F1 F3 ∧ F3 D = none ∧ H3 D = some (.lst (qs'.map V.ref)) ∧ qs'.length = i + 1 ∧ qs'.Nodup ∧ D ∉ qs' ∧ (∀ q ∈ qs', H q = none ∧ F3 q = none ∧ ∃ us, H3 q = some (.lst us) ∧ LsOf R l0 us F3),
      fun H3 q => ⟨xs.length - (i + 1), by omega, rfl, hlt, q⟩, fun v H3 y => ?_⟩
    obtain ⟨F3, g3, u3⟩ := src.yld i _ F2 H2 v H3 hx e2 S2.ok y
    have keep : ∀ {F' H' F'' H'' : Hp} {a : Addr}, E.pp ≠ some a → Gr E.pp F' H' F'' H'' → F' a = none → ∀ {o : HO}, H' a = some o → F'' a = none ∧ H'' a = some o := fun {F' H' F'' H'' a} hp gg hn {o} ho => by
      refine ⟨?_, gg.k a o ho hp⟩
      cases z : F'' a with
      | none => rfl
      | some w =>
        rcases gg.n a w z with q | q
        · rw [hn] at q; cases q
        · rw [ho] at q; cases q
    refine ⟨xs[i], wipeG G (own.map (·.2)), F3, (S2.gr g3).wipe _, u3, fun σ4 hw S4 => ⟨?_, ⟨xs[i], hm⟩, F3, S4, fun F4 H4 g4 => ?_⟩⟩
    · rw [hw _ hidx, wipe_idem fun _ h => h]
    · show ∃ q : { x // x ∈ xs }, tM E (f q.1 (wipeG G (own.map (·.2)))) (LsOf R l0) σ4 H4 _
      refine ⟨⟨xs[i], hm⟩, F4, S4.gr g4, fun q us F5 H5 g5 m1 m2 m3 u5 => ?_⟩
      have g35 := (g3.trans g4).trans g5
      obtain ⟨n5, d5⟩ := keep hpD g35 n2 d2
      have gg := g2.trans g35
      have hq0 : H q = none := g2.back (g3.back (g4.back m1))
      have hqD : q ≠ D := fun z => by
        obtain ⟨_, dd⟩ := keep hpD (g3.trans g4) n2 d2
        rw [z, dd] at m1
        cases m1
      have hqq : q ∉ qs := fun z => by
        obtain ⟨_, b2, us', b3, _⟩ := u2 q z
        obtain ⟨_, dd⟩ := keep (npq q z) (g3.trans g4) b2 b3
        rw [dd] at m1
        cases m1
      have hi2 : i < sizeLine := by omega
      refine ⟨qs.map V.ref, d5, by rw [List.length_map, l2]; exact hi2, F5, qs ++ [q], ?_, ((e2.trans g3.f).trans g4.f).trans g5.f, n5, by rw [upd_same, List.map_append]; rfl, by rw [List.length_append, l2]; rfl, ?_, ?_, ?_⟩
      · exact {
          f := gg.f
          s := fun a o z => by
            have ne : a ≠ D := fun w => by rw [w, n5] at z; cases z
            rw [upd_ne ne]
            exact gg.s a o z
          k := fun a o z hp => by
            have ne : a ≠ D := fun w => by rw [w, hD0] at z; cases z
            rw [upd_ne ne]
            exact gg.k a o z hp
          n := gg.n
          p := fun a ha => by
            obtain ⟨q1, x, y, q2, q3⟩ := gg.p a ha
            have ne : a ≠ D := fun w => hpD (by rw [← w]; exact ha)
            exact ⟨q1, x, y, by rw [upd_ne ne]; exact q2, q3⟩ }
      · rw [List.nodup_append]
        refine ⟨nd2, by simp, fun a h1 b h2 z => ?_⟩
        have : b = q := by simpa using h2
        subst z
        rw [this] at h1
        exact hqq h1
      · intro h
        rcases List.mem_append.mp h with z | z
        · exact dq2 z
        · exact hqD (by have : D = q := by simpa using z
                        exact this.symm)
      · intro a h
        rcases List.mem_append.mp h with z | z
        · obtain ⟨b1, b2, us', b3, b4⟩ := u2 a z
          obtain ⟨c1, c2⟩ := keep (npq a z) g35 b2 b3
          have ne : a ≠ D := fun w => dq2 (by rw [← w]; exact z)
          exact ⟨b1, c1, us', by rw [upd_ne ne]; exact c2, b4.up F5 g35.f⟩
        · have : a = q := by simpa using z
          subst this
          exact ⟨hq0, m2, us, by rw [upd_ne hqD]; exact m3, u5.here⟩
  · have e : i = xs.length := by omega
    subst e
    exact .inl ⟨src.stop F2 H2 e2 S2.ok.s, k D qs F2 H2 g2 hD0 n2 d2 l2 nd2 dq2 u2⟩
/-- name = [elt for ..], elt a new list, the name a local -/
theorem js_lcM {Rx : β → V → Hp → Prop} {xs : List β} {tg iter elt : Expr} {scope : Scope} {idx : List Nat} {f : β → List Sl → List Sl} {i : Nat} {y : Str} {py spos : Pos} (l0 : List α) (own : List (Str × Nat)) (hN : X.N.Nodup) (hi : PI X tg iter (tI E G Rx xs))
    (hg : ∀ (s : Shared) (H : Hp) (C : Addr) (cl : List (Str × Addr)) (fp : List Addr) (x : β), PG (X.blk s H scope (compEnvC scope cl C X.env) fp) tg (tG E (Rx x) idx (f x)))
    (he : ∀ (s : Shared) (H : Hp) (C : Addr) (cl : List (Str × Addr)) (fp : List Addr) (x : β), x ∈ xs → PE (X.blk s H scope (compEnvC scope cl C X.env) fp) elt (tM E (f x (wipeG G (own.map (·.2)))) (LsOf R l0)))
    (hz : xs.length < sizeLine) (hy : X.N[i]? = some y := by exact rfl) (hyl : X.env.scope.names.lookup y = some .local := by exact rfl) (hsw : swapsWith (.ListComp elt [⟨tg, iter, [], 0⟩] scope pos) (some (.Name y py)) spos.line X.env = pure true := by exact sw_true rfl rfl rfl (by decide +kernel))
    (ok : blkC X.N X.env.scope scope own = true := by kernel_rfl) (hc : X.calm = true := by rfl) (hidx : ∀ k ∈ idx, k ∈ own.map (·.2) := by decide) (hs : ∀ x, foldedSetIterable iter X.env x = pure x := by intro _; rfl) :
    PS X (.Assign [.Name y py] (.ListComp elt [⟨tg, iter, [], 0⟩] scope pos) spos) (tAsg (tLM E G R l0 xs.length) (gName i)) := by
  have P := ps_setLc (i := i) hc hN hy hyl hsw hi (blkOk_by ok) (g := fun v σ H Q => ∃ x, tG E (Rx x) idx (f x) v σ H Q) (tt := fun σ H Q => ∃ q : { x // x ∈ xs }, tT E (f q.1 (wipeG G (own.map (·.2)))) true σ H Q)
    (te := fun σ H Q => ∃ q : { x // x ∈ xs }, tM E (f q.1 (wipeG G (own.map (·.2)))) (LsOf R l0) σ H Q)
    (fun s H C cl fp => ⟨fun pins s' σ H' v u Q I r ⟨x, h⟩ => (hg s H C cl fp x).run pins s' σ H' v u Q I r h⟩) (fun s H C cl fp => PTs_any fun q => jts_nil) (fun s H C cl fp => PE_any fun q => he s H C cl fp q.1 q.2) hs
  refine PS_imp P fun D σ H hw => ?_
  revert hw
  show tLM E G R l0 xs.length σ H (fun v H1 => gName i v σ H1 D.nx) → tLc _ _ _ _ _ σ H (fun v H1 => gName i v σ H1 D.nx)
  exact lc_readM l0 hidx hz
/-! ### states by the heap as it stands -/
def Zt (E : En) (G : List Sl) (M : Hp → Hp → Prop) (F0 : Hp) (σ : L2.St) (H : Hp) : Prop := ∃ F, Ex F0 F ∧ Sat ⟨F, H, none⟩ G σ F H ∧ Gr none E.F E.H F H ∧ M F H
def tz (E : En) (G : List Sl) (M : Hp → Hp → Prop) (N : Hp → L2.St → Hp → Prop) (Rt : V → Hp → Hp → Prop) : TS := fun D σ H => ∃ F0, Zt E G M F0 σ H ∧ (∀ σ' H', N F0 σ' H' → D.nx σ' H') ∧ (∀ v F' H', Gr none E.F E.H F' H' → Rt v F' H' → D.rt v H')
def Stb (M : Hp → Hp → Prop) : Prop := ∀ F H F' H', Gr none F H F' H' → M F H → M F' H'
variable {M : Hp → Hp → Prop} {N : Hp → L2.St → Hp → Prop} {Rt : V → Hp → Hp → Prop}
theorem PS_any {ι : Type} {t : ι → TS} (h : ∀ i, PS X st (t i)) : PS X st (fun D σ H => ∃ i, t i D σ H) := ⟨fun pins s σ H D I ⟨i, hw⟩ => (h i).run pins s σ H D I hw⟩
theorem PI_any {ι : Type} {tg : Expr} {t : ι → TI} (h : ∀ i, PI X tg e (t i)) : PI X tg e (fun σ H R => ∃ i, t i σ H R) := ⟨fun pins s σ H R I ⟨i, hw⟩ => (h i).run pins s σ H R I hw⟩
theorem PG_any {ι : Type} {t : ι → TG} (h : ∀ i, PG X e (t i)) : PG X e (fun v σ H Q => ∃ i, t i v σ H Q) := ⟨fun pins s σ H v u Q I r ⟨i, hw⟩ => (h i).run pins s σ H v u Q I r hw⟩
theorem jz_cons {ι : Type} (Gf : ι → List Sl) (Mf : ι → Hp → Hp → Prop) (p : PS X st (tz E G M (fun F0 σ H => ∃ i, Zt E (Gf i) (Mf i) F0 σ H) Rt)) (q : ∀ i, PSs X rest (tz E (Gf i) (Mf i) N Rt)) : PSs X (st :: rest) (tz E G M N Rt) :=
  PSs_imp (pss_cons p (PSs_any q)) fun D σ H ⟨F0, z, kn, kr⟩ => ⟨F0, z, fun σ' H' ⟨i, zi⟩ => ⟨i, F0, zi, kn, kr⟩, kr⟩
theorem jz_one (p : PS X st (tz E G M N Rt)) : PSs X [st] (tz E G M N Rt) := pss_one p
theorem jz_N {N' : Hp → L2.St → Hp → Prop} (p : PS X st (tz E G M N Rt)) (h : ∀ F0 σ H, N F0 σ H → N' F0 σ H) : PS X st (tz E G M N' Rt) := PS_imp p fun D σ H ⟨F0, z, kn, kr⟩ => ⟨F0, z, fun σ' H' n => kn σ' H' (h F0 σ' H' n), kr⟩
/-- a statement that leaves the inner lists alone -/
theorem jz_lift {G1 : List Sl} (hM : Stb M) (h1 : Plain G1) (p : ∀ E' : En, E'.pp = none → PS X st (tS E' G (fun _ _ _ => False) (· = G1))) : PS X st (tz E G M (fun F0 σ H => Zt E G1 M F0 σ H) Rt) :=
  PS_imp (PS_any (ι := { E' : En // E'.pp = none }) fun E' => p E'.1 E'.2) fun D σ H ⟨F0, ⟨F, e0, S, g, m⟩, kn, kr⟩ => ⟨⟨⟨F, H, none⟩, rfl⟩, F, S, fun G' σ' F' H' n S' e => by
    subst n
    have gg : Gr none F H F' H' := S'.bs
    exact kn σ' H' ⟨F', e0.trans e, S'.reE h1 S'.bs.s, g.trans gg, hM _ _ _ _ gg m⟩, fun _ _ _ _ z => z.elim⟩
theorem jz_for {Rx : β → V → Hp → Prop} {xs : List β} {tg iter : Expr} {idx : List Nat} {f : β → List Sl → List Sl} (hp : PassesOwn (model X.prog X.w) X.A X.env X.xe) (hc : X.calm = true)
    (hi : ∀ E' : En, E'.pp = none → PI X tg iter (tI E' G Rx xs)) (hg : ∀ (E' : En) x, PG X tg (tG E' (Rx x) idx (f x))) (Gp : Nat → List Sl → Prop) (hpl : ∀ i G, Gp i G → Plain G) (hpf : ∀ x G, Plain G → Plain (f x G)) (Mf : Nat → Hp → Hp → Prop) (hM : ∀ i, Stb (Mf i)) (h0 : Gp 0 G)
    (hb : ∀ (i : Nat) (x : β) (G1 : List Sl), xs[i]? = some x → Gp i G1 → PSs X body (tz E (f x G1) (Mf i) (fun F0 σ H => ∃ G2, Gp (i + 1) G2 ∧ Zt E G2 (Mf (i + 1)) F0 σ H) Rt))
    (hs : ∀ x, foldedSetIterable iter X.env x = pure x := by intro _; rfl) : PS X (.For tg iter body [] pos) (tz E G (Mf 0) (fun F0 σ H => ∃ G2, Gp xs.length G2 ∧ Zt E G2 (Mf xs.length) F0 σ H) Rt) := by
  have pi := PI_any (X := X) (ι := { E' : En // E'.pp = none }) fun E' => hi E'.1 E'.2
  have pg := PG_any (X := X) (e := tg) (ι := En × β) (t := fun q => tG q.1 (Rx q.2) idx (f q.2)) fun q => hg q.1 q.2
  have pb := PSs_any (X := X) (st := body) (ι := { q : Nat × β × List Sl // xs[q.1]? = some q.2.1 ∧ Gp q.1 q.2.2 }) (t := fun q => tz E (f q.1.2.1 q.1.2.2) (Mf q.1.1) (fun F0 σ H => ∃ G2, Gp (q.1.1 + 1) G2 ∧ Zt E G2 (Mf (q.1.1 + 1)) F0 σ H) Rt) fun q => hb _ _ _ q.2.1 q.2.2
  refine PS_imp (ps_for hp hc pi pg pb hs) fun D σ H ⟨F0, ⟨F, e0, S, g, m⟩, kn, kr⟩ => ?_
  refine ⟨⟨⟨F, H, none⟩, rfl⟩, F, S, fun J F1 H1 g1 src => ?_⟩
  have g1 : Gr none F H F1 H1 := g1
  have src : Src none J F1 Rx xs := src
  refine ⟨fun i m σ2 H2 => m = xs.length - i ∧ i ≤ xs.length ∧ ∃ G2, Gp i G2 ∧ ∃ F2, Ex F1 F2 ∧ Sat ⟨F2, H2, none⟩ G2 σ2 F2 H2 ∧ Gr none E.F E.H F2 H2 ∧ Mf i F2 H2, ⟨xs.length, rfl, Nat.zero_le _, G, h0, F1, Ex.refl _, (S.gr g1).reE (hpl 0 G h0) g1.s, g.trans g1, hM 0 _ _ _ _ g1 m⟩, ?_⟩
  rintro i m σ2 H2 ⟨rfl, hi', G2, gp, F2, e2, S2, gE, m2⟩
  by_cases hlt : i < xs.length
  · have hx : xs[i]? = some xs[i] := List.getElem?_eq_getElem hlt
    refine .inr ⟨src.go i F2 H2 hlt e2 S2.ok.s, fun σ3 H3 => ∃ G3, Gp (i + 1) G3 ∧ ∃ F3, Ex F1 F3 ∧ Sat ⟨F3, H3, none⟩ G3 σ3 F3 H3 ∧ Gr none E.F E.H F3 H3 ∧ Mf (i + 1) F3 H3, fun σ3 H3 q => ⟨xs.length - (i + 1), by omega, rfl, hlt, q⟩, fun v H3 y => ?_⟩
    obtain ⟨F3, g3, u3⟩ := src.yld i _ F2 H2 v H3 hx e2 S2.ok y
    have g3 : Gr none F2 H2 F3 H3 := g3
    refine ⟨(⟨F3, H3, none⟩, xs[i]), G2, F3, (S2.gr g3).reE (hpl i G2 gp) g3.s, u3, fun σ4 _ S4 => ?_⟩
    refine ⟨⟨(i, xs[i], G2), hx, gp⟩, F1, ⟨F3, e2.trans g3.f, S4, gE.trans g3, hM i _ _ _ _ g3 m2⟩, fun σ5 H5 ⟨G5, gp5, F5, e5, S5, gE5, m5⟩ => ⟨G5, gp5, F5, e5, S5, gE5, m5⟩, kr⟩
  · have e : i = xs.length := by omega
    subst e
    exact .inl ⟨src.stop F2 H2 e2 S2.ok.s, kn σ2 H2 ⟨G2, gp, F2, (e0.trans g1.f).trans e2, S2, gE, m2⟩⟩
/-- the inner lists -/
def Mm (R : α → V → Hp → Prop) (E : En) (qs : List Addr) (lf : Nat → List α) (F H : Hp) : Prop := qs.Nodup ∧ ∀ (k : Nat) (q : Addr), qs[k]? = some q → E.H q = none ∧ F q = none ∧ ∃ us, H q = some (.lst us) ∧ LsOf R (lf k) us F
theorem mm_stb {qs : List Addr} {lf : Nat → List α} : Stb (Mm R E qs lf) := fun F H F' H' g ⟨nd, h⟩ => ⟨nd, fun k q hq => by
  obtain ⟨h1, h2, us, h3, h4⟩ := h k q hq
  refine ⟨h1, ?_, us, g.k q _ h3 (fun z => nomatch z), h4.up F' g.f⟩
  cases z : F' q with
  | none => rfl
  | some o =>
    rcases g.n q o z with w | w
    · rw [h2] at w; cases w
    · rw [h3] at w; cases w⟩
/-- ahead[head] = number -/
theorem jz_poke {i j hd : Nat} {q : Addr} {qs : List Addr} {lf : Nat → List α} {x : α} (hG : G[i]? = some (.fz (IsC (.ref q)))) (hPl : Plain G) (hq : qs[j]? = some q) (hl : hd < (lf j).length)
    (p : ∀ E' : En, E'.pp = none → PS X st (tAsg (tE E' G (R x)) (gSub (tVar i) (tE E' G (IsU hd)) rSetL))) : PS X st (tz E G (Mm R E qs lf) (fun F0 σ H => Zt E G (Mm R E qs (fun k => if k = j then (lf j).set hd x else lf k)) F0 σ H) Rt) :=
  PS_imp (PS_any (ι := { E' : En // E'.pp = none }) fun E' => p E'.1 E'.2) fun D σ H ⟨F0, ⟨F, e0, S, g, m⟩, kn, kr⟩ => ⟨⟨⟨F, H, none⟩, rfl⟩, F, S, fun v F1 H1 g1 u1 => by
    have g1 : Gr none F H F1 H1 := g1
    obtain ⟨w, ew, uw⟩ := S.fz i _ hG
    have e1 : w = .ref q := uw.here
    subst e1
    refine ⟨.ref q, ew, F1, S.gr g1, fun w2 F2 H2 g2 u2 => ?_⟩
    have g2 : Gr none F1 H1 F2 H2 := g2
    have m2 := mm_stb _ _ _ _ (g1.trans g2) m
    have gE := (g.trans g1).trans g2
    have S2 := (S.gr g1).gr g2
    obtain ⟨nd, hm⟩ := m2
    obtain ⟨h1, h2, us, h3, h4⟩ := hm j q hq
    have hlen := h4.len
    refine ⟨q, us, (hd : Int), hd, rfl, u2.here, h3, ?_, ?_⟩
    · show ixN us.length (hd : Int) = some hd
      exact gw_ixN (by omega)
    · have hx : Ex F2 (upd H2 q (.lst (us.set hd v))) := fun a o z => by
        have ne : a ≠ q := fun w => by rw [w, h2] at z; cases z
        rw [upd_ne ne]
        exact gE.s a o z
      refine kn σ _ ⟨F2, (e0.trans g1.f).trans g2.f, S2.reE hPl hx, ?_, nd, fun k q' hk => ?_⟩
      · exact {
          f := gE.f
          s := hx
          k := fun a o z hp => by
            have ne : a ≠ q := fun w => by rw [w, h1] at z; cases z
            rw [upd_ne ne]
            exact gE.k a o z hp
          n := gE.n
          p := fun _ z => nomatch z }
      · obtain ⟨a1, a2, us', a3, a4⟩ := hm k q' hk
        by_cases z : k = j
        · subst z
          rw [hq] at hk
          cases hk
          refine ⟨h1, h2, us.set hd v, upd_same, ?_⟩
          show LsOf R (if k = k then (lf k).set hd x else lf k) _ F2
          rw [if_pos rfl]
          exact paired_set h4 (u1.mono g2.f) hd
        · have ne : q' ≠ q := fun w => z (by
            subst w
            exact (List.getElem?_inj (List.getElem?_eq_some_iff.mp hk).1 nd).mp (hk.trans hq.symm))
          refine ⟨a1, a2, us', by rw [upd_ne ne]; exact a3, ?_⟩
          show LsOf R (if k = j then (lf j).set hd x else lf k) _ F2
          rw [if_neg z]
          exact a4⟩
/-- into such a state -/
theorem jz_enter {i n : Nat} {l0 : List α} {Nj : List Sl → Prop} (hE : E.pp = none) (hPl : Plain G) (p : PS X st (tAsg (tLM E G R l0 n) (gName i)))
    (q : ∀ qs : List Addr, qs.length = n → PSs X rest (tz E (G.set i (.fz (IsL (fun a => IsC (.ref a)) qs))) (Mm R E qs (fun _ => l0)) (fun _ _ _ => False) Rt)) : PSs X (st :: rest) (tS E G Rt Nj) :=
  PSs_imp (pss_cons p (PSs_any (ι := { qs : List Addr // qs.length = n }) fun qs => q qs.1 qs.2)) fun D σ H ⟨F, S, kn, kr⟩ => ⟨F, S, fun p qs F' H' g n1 n2 n3 l nd pq u => by
    have g' : Gr E.pp F H (upd F' p (.lst (qs.map V.ref))) H' := Gr_frz S.ok g n1 n2 n3
    have S' := S.gr g'
    have uL : Up (IsL (fun a => IsC (.ref a)) qs) (.ref p) (upd F' p (.lst (qs.map V.ref))) := LstOf.up ⟨p, _, rfl, upd_same, LsOf.up (paired_of_get (by simp) fun k a v h1 h2 => by
      rw [List.getElem?_map, h1] at h2
      cases h2
      exact fun _ _ => rfl)⟩
    have S2 := S'.set_fz (i := i) uL
    have hP2 : Plain (G.set i (.fz (IsL (fun a => IsC (.ref a)) qs))) := fun k s hk => by
      by_cases z : k = i
      · subst z
        rw [List.getElem?_set_self (by have := (List.getElem?_eq_some_iff.mp hk).1; simpa using this)] at hk
        cases hk
        exact .inr ⟨_, rfl⟩
      · rw [List.getElem?_set_ne (Ne.symm z)] at hk
        exact hPl k s hk
    have gE : Gr none E.F E.H (upd F' p (.lst (qs.map V.ref))) H' := by
      have := S2.bs
      unfold Bs at this
      rwa [hE] at this
    refine ⟨⟨qs, l⟩, upd F' p (.lst (qs.map V.ref)), ⟨_, Ex.refl _, S2.reE hP2 gE.s, gE, nd, fun k q hq => ?_⟩, fun _ _ z => z.elim, fun v F2 H2 gg r => kr v F2 H2 (by
      show Gr E.pp E.F E.H F2 H2
      rw [hE]
      exact gg) r⟩
    obtain ⟨b1, b2, us, b3, b4⟩ := u q (List.mem_of_getElem? hq)
    have ne : q ≠ p := fun w => pq (by rw [← w]; exact List.mem_of_getElem? hq)
    exact ⟨S.bs.back b1, by rw [upd_ne ne]; exact b2, us, b3, b4.up _ (Ex.new n2)⟩⟩
/-- return found -/
theorem jz_ret {i : Nat} {qs : List Addr} {lf : Nat → List α} (p : PE X e (tVar i)) (hG : G[i]? = some (.fz (IsL (fun a => IsC (.ref a)) qs))) : PS X (.Return (some e) pos) (tz E G (Mm R E qs lf) N (Rn (IsL (IsL R) ((List.range qs.length).map lf)))) :=
  PS_imp (ps_ret p) fun D σ H ⟨F0, ⟨F, e0, S, g, nd, m⟩, kn, kr⟩ => by
    obtain ⟨v, ev, uv⟩ := S.fz i _ hG
    obtain ⟨p, ws, rfl, hp, hw⟩ := uv.here
    have hws : ws = qs.map V.ref := by
      have all : ∀ {qs : List Addr} {ws : List V}, LsOf (fun a => IsC (.ref a)) qs ws F → ws = qs.map V.ref := by
        intro qs
        induction qs with
        | nil => intro ws h; cases h; rfl
        | cons q qs ih =>
          intro ws h
          cases h with
          | cons h1 h2 => rw [ih h2, show _ = V.ref q from h1.here]; rfl
      exact all hw.here
    subst hws
    have hF : ∀ q ∈ qs, F q = none := fun q hq => by
      obtain ⟨k, hk⟩ := List.getElem?_of_mem hq
      exact (m k q hk).2.1
    have ex : Ex F (fun a => if a ∈ qs then H a else F a) := fun a o z => by
      have ne : a ∉ qs := fun w => by rw [hF a w] at z; cases z
      show (if a ∈ qs then H a else F a) = some o
      rw [if_neg ne]
      exact z
    refine ⟨.ref p, ev, kr _ (fun a => if a ∈ qs then H a else F a) H ?_ ?_⟩
    · exact {
        f := g.f.trans ex
        s := fun a o z => by
          have z : (if a ∈ qs then H a else F a) = some o := z
          by_cases w : a ∈ qs
          · rwa [if_pos w] at z
          · rw [if_neg w] at z
            exact g.s a o z
        k := g.k
        n := fun a o z => by
          have z : (if a ∈ qs then H a else F a) = some o := z
          by_cases w : a ∈ qs
          · obtain ⟨k, hk⟩ := List.getElem?_of_mem w
            exact .inr (m k a hk).1
          · rw [if_neg w] at z
            exact g.n a o z
        p := fun _ z => nomatch z }
    · refine LstOf.up ⟨p, qs.map V.ref, rfl, ex _ _ hp, LsOf.up (paired_of_get (by simp) fun k l v h1 h2 => ?_)⟩
      rw [List.getElem?_map] at h1 h2
      cases e1 : qs[k]? with
      | none => rw [e1] at h2; cases h2
      | some q =>
        rw [e1] at h2
        have hk := (List.getElem?_eq_some_iff.mp e1).1
        rw [List.getElem?_range hk] at h1
        cases h1
        cases h2
        obtain ⟨a1, a2, us, a3, a4⟩ := m k q e1
        refine LstOf.up ⟨q, us, rfl, ?_, (a4.up _ ex |> LsOf.up)⟩
        show (if q ∈ qs then H q else F q) = _
        rw [if_pos (List.mem_of_getElem? e1)]
        exact a3
end
theorem le_set (G : List Sl) : ∀ i : Nat, Paired Le G (G.set i .un) := by
  induction G with
  | nil => intro i; exact .nil
  | cons s G ih =>
    intro i
    cases i with
    | zero => exact .cons .un (le_refl' G)
    | succ i => exact .cons (Le.rfl' s) (ih i)
where le_refl' : ∀ G : List Sl, Paired Le G G
  | [] => .nil
  | s :: G => .cons (Le.rfl' s) (le_refl' G)
theorem Le.trans' {a b c : Sl} (h : Le a b) (k : Le b c) : Le a c := by
  cases k with
  | un => exact .un
  | fz k => cases h with
    | fz h => exact .fz fun v F q => k v F (h v F q)
  | mt k => cases h with
    | mt h => exact .mt fun v F q => k v F (h v F q)
  | pot => exact h
theorem le_pair_trans : ∀ {A B D : List Sl}, Paired Le A B → Paired Le B D → Paired Le A D
  | _, _, _, .nil, .nil => .nil
  | _, _, _, .cons r t, .cons r' t' => .cons (r.trans' r') (le_pair_trans t t')
theorem le_wipe (G : List Sl) : ∀ vs : List Nat, Paired Le G (wipeG G vs)
  | [] => le_set.le_refl' G
  | v :: vs => le_pair_trans (le_wipe G vs) (le_set _ v)
theorem Zt.wipe {E : En} {G : List Sl} {M : Hp → Hp → Prop} {F0 : Hp} {σ : L2.St} {H : Hp} (z : Zt E G M F0 σ H) (vs : List Nat) : Zt E (wipeG G vs) M F0 σ H := let ⟨F, e, S, g, m⟩ := z; ⟨F, e, S.weakL (le_wipe G vs), g, m⟩
theorem Zt.imp {E : En} {G : List Sl} {M M' : Hp → Hp → Prop} {F0 : Hp} {σ : L2.St} {H : Hp} (z : Zt E G M F0 σ H) (h : ∀ F H, M F H → M' F H) : Zt E G M' F0 σ H := let ⟨F, e, S, g, m⟩ := z; ⟨F, e, S, g, h _ _ m⟩
theorem Mm.congr {α : Type} {R : α → V → Hp → Prop} {E : En} {qs : List Addr} {lf lf' : Nat → List α} {F H : Hp} (m : Mm R E qs lf F H) (h : ∀ k, k < qs.length → lf k = lf' k) : Mm R E qs lf' F H := ⟨m.1, fun k q hq => by
  rw [← h k (List.getElem?_eq_some_iff.mp hq).1]
  exact m.2 k q hq⟩
def plS (s : Sl) : Prop := s = .un ∨ ∃ R, s = .fz R
theorem plain_of {G : List Sl} (h : ∀ s ∈ G, plS s) : Plain G := fun i s hs => h s (List.mem_of_getElem? hs)
theorem plain_nil : ∀ s ∈ ([] : List Sl), plS s := fun s h => by simp at h
theorem plain_fz {R : V → Hp → Prop} {G : List Sl} (h : ∀ s ∈ G, plS s) : ∀ s ∈ Sl.fz R :: G, plS s := fun s hs => by
  rcases List.mem_cons.mp hs with e | e
  · exact .inr ⟨R, e⟩
  · exact h s e
theorem plain_un {G : List Sl} (h : ∀ s ∈ G, plS s) : ∀ s ∈ Sl.un :: G, plS s := fun s hs => by
  rcases List.mem_cons.mp hs with e | e
  · exact .inl e
  · exact h s e
theorem jz_M {X : Cx} {E : En} {G : List Sl} {st : Stmt} {M M' : Hp → Hp → Prop} {N : Hp → L2.St → Hp → Prop} {Rt : V → Hp → Hp → Prop} (p : PS X st (tz E G M' N Rt)) (h : ∀ F H, M F H → M' F H) : PS X st (tz E G M N Rt) := PS_imp p fun D σ H ⟨F0, z, kn, kr⟩ => ⟨F0, z.imp h, kn, kr⟩
theorem plain_s {s : Sl} {G : List Sl} (h0 : plS s) (h : ∀ s ∈ G, plS s) : ∀ t ∈ s :: G, plS t := fun t ht => by
  rcases List.mem_cons.mp ht with e | e
  · rw [e]; exact h0
  · exact h t e
theorem plain_set {G : List Sl} {i : Nat} {R : V → Hp → Prop} (h : Plain G) : Plain (G.set i (.fz R)) := fun k s hs => by
  by_cases q : k = i
  · subst q
    rw [List.getElem?_set_self (by have := (List.getElem?_eq_some_iff.mp hs).1; simpa using this)] at hs
    cases hs
    exact .inr ⟨_, rfl⟩
  · rw [List.getElem?_set_ne (Ne.symm q)] at hs
    exact h k s hs
end Gw
set_option maxHeartbeats 4000000
/-! Values that are not known: kinds with an open part. -/
namespace Gw
open PySem PySem.Spec PyProof.Rows L2
/-- R stands when the frozen part grows -/
def Mo (R : V → Hp → Prop) : Prop := ∀ v F F', R v F → Ex F F' → R v F'
theorem Mo.up {R : V → Hp → Prop} (h : Mo R) {v : V} {F : Hp} (r : R v F) : Up R v F := fun F' e => h v F F' r e
theorem mo_I {i : Int} : Mo (IsI i) := fun _ _ _ h _ => h
theorem mo_B {b : Bool} : Mo (IsB b) := fun _ _ _ h _ => h
theorem mo_L {R : List V → Hp → Prop} : Mo (LstOf R) := fun v F F' h e => LstOf.up h F' e
theorem mo_T {R : List V → Hp → Prop} : Mo (TupOf R) := fun v F F' h e => TupOf.up h F' e
theorem mo_Q {C : Addr} {q : Rat} : Mo (IsQ C q) := fun _ _ _ h e => h.mono e
theorem mo_Nm {C : Addr} {q : Rat} : Mo (IsNm C q) := fun _ _ _ h e => h.mono e
theorem mo_som {α : Type} {P : α → Prop} {R : α → V → Hp → Prop} (h : ∀ x, Mo (R x)) : Mo (Som P R) := fun v F F' ⟨x, px, r⟩ e => ⟨x, px, h x v F F' r e⟩
section
variable {X : Cx} {E : En} {G : List Sl} {e a b c : Expr} {R R' Ra Rb Rz : V → Hp → Prop} {pos : Pos} {st : Stmt} {rest : List Stmt} {pp : Option Addr} {α : Type} {P : α → Prop} {Rx : α → V → Hp → Prop}
theorem rop_somR {r : R2} (hm : ∀ x, Mo (Rx x)) (h : ∀ x, P x → ROp pp r Ra (Rx x) Rz) : ROp pp r Ra (Som P Rx) Rz := fun v y F H Q ok u1 u2 k => by
  obtain ⟨x, px, rx⟩ := u2.here
  exact h x px v y F H Q ok u1 ((hm x).up rx) k
theorem rop_somL {r : R2} (hm : ∀ x, Mo (Rx x)) (h : ∀ x, P x → ROp pp r (Rx x) Ra Rz) : ROp pp r (Som P Rx) Ra Rz := fun v y F H Q ok u1 u2 k => by
  obtain ⟨x, px, rx⟩ := u1.here
  exact h x px v y F H Q ok ((hm x).up rx) u2 k
theorem rop_to {r : R2} (h : ROp pp r Ra Rb R) (k : ∀ v F, R v F → Rz v F) : ROp pp r Ra Rb Rz := fun v y F H Q ok u1 u2 q => h v y F H Q ok u1 u2 fun z F' H' g u => q z F' H' g (u.imp fun F w => k z F w)
/-- a slot's list with an open part -/
def SomM {α : Type} (P : α → Prop) (R : α → List V → Hp → Prop) (vs : List V) (F : Hp) : Prop := ∃ x, P x ∧ R x vs F
theorem js_openM {Rm : α → List V → Hp → Prop} {i : Nat} {st : List Stmt} {Rt : V → Hp → Hp → Prop} {N : List Sl → Prop} (h : G[i]? = some (.mt (SomM P Rm))) (hm : ∀ x vs F F', Rm x vs F → Ex F F' → Rm x vs F')
    (k : ∀ x, P x → PSs X st (tS E (G.set i (.mt (Rm x))) Rt N)) : PSs X st (tS E G Rt N) := PSs_imp (PSs_any (ι := { x // P x }) (t := fun q => tS E (G.set i (.mt (Rm q.1))) Rt N) fun q => k q.1 q.2) fun D σ H ⟨F, S, kn, kr⟩ => by
  obtain ⟨p, vs, e1, h1, h2, h3, u⟩ := S.mt i _ h
  obtain ⟨x, px, r⟩ := u.here
  have hl : i < G.length := (List.getElem?_eq_some_iff.mp h).1
  have S2 := S.set_mt (i := i) (R := Rm x) (p := p) (vs := vs) h1 h2 h3 (fun F' e => hm x vs F F' r e) (fun j Sj hj hG hs => S.ap j i Sj _ p hj hG h hs e1)
  have e2 : σ.set i (some (.ref p)) = σ := by
    apply List.ext_getElem?
    intro j
    by_cases hj : j = i
    · subst hj
      rw [List.getElem?_set_self (List.getElem?_eq_some_iff.mp e1).1, e1]
    · rw [List.getElem?_set_ne (Ne.symm hj)]
  rw [e2] at S2
  exact ⟨⟨x, px⟩, F, S2, kn, kr⟩
/-- a test whose answer is not known but fulfils P -/
def tTS (E : En) (G : List Sl) (P : Bool → Prop) : TT := fun σ H Q => ∃ F, Sat E G σ F H ∧ ∀ b F' H', P b → Gr E.pp F H F' H' → Q b H'
variable {Pb : Bool → Prop}
theorem jts_val (p : PT X e (tB (tE E G (Som Pb IsB)))) : PT X e (tTS E G Pb) := PT_imp p fun σ H Q ⟨F, S, k⟩ => ⟨F, S, fun v F' H' g u => by
  obtain ⟨b, pb, r⟩ := u.here
  exact ⟨b, r, k b F' H' pb g⟩⟩
theorem jts_cmp {r : R2} (p : PT X e (tTest (tOp r (tE E G Ra) (tE E G Rb)))) (h : ROp E.pp r Ra Rb (Som Pb IsB)) : PT X e (tTS E G Pb) := PT_imp p fun σ H Q ⟨F, S, k⟩ =>
  ⟨F, S, fun x F1 H1 g1 u1 => ⟨F1, S.gr g1, fun y F2 H2 g2 u2 => h x y F2 H2 _ g2.ok (u1.mono g2.f) u2 fun z F3 H3 g3 u3 => by
    obtain ⟨b, pb, rb⟩ := u3.here
    exact ⟨b, rb, k b F3 H3 pb ((g1.trans g2).trans g3)⟩⟩⟩
theorem jts_not (p : PT X a (tTS E G Pb)) : PT X (.UnaryOp .Not a pos) (tTS E G (fun b => Pb (!b))) := PT_imp (pt_not p) fun σ H Q ⟨F, S, k⟩ => ⟨F, S, fun b F' H' pb g => k (!b) F' H' (by show Pb (!!b); rw [Bool.not_not]; exact pb) g⟩
theorem js_ifS {p q : List Stmt} {Rt : V → Hp → Hp → Prop} {N : List Sl → Prop} (hc : PT X c (tTS E G Pb)) (h1 : Pb true → PSs X p (tS E G Rt N)) (h2 : Pb false → PSs X q (tS E G Rt N)) : PS X (.If c p q pos) (tS E G Rt N) :=
  PS_imp (ps_if hc (PSs_when h1) (PSs_when h2)) fun D σ H ⟨F, S, kn, kr⟩ => ⟨F, S, fun b F1 H1 pb g1 => by
    cases b with
    | true =>
      show (Pb true ∧ tS E G Rt N D σ H1)
      exact ⟨pb, F1, S.gr g1, fun G2 σ2 F2 H2 n2 S2 e2 => kn G2 σ2 F2 H2 n2 S2 (g1.f.trans e2), kr⟩
    | false =>
      show (Pb false ∧ tS E G Rt N D σ H1)
      exact ⟨pb, F1, S.gr g1, fun G2 σ2 F2 H2 n2 S2 e2 => kn G2 σ2 F2 H2 n2 S2 (g1.f.trans e2), kr⟩⟩
theorem je_ifS (hc : PT X c (tTS E G Pb)) (ha : Pb true → PE X a (tE E G R)) (hb : Pb false → PE X b (tE E G R)) : PE X (.IfExp c a b pos) (tE E G R) :=
  PE_imp (pe_ifExp hc (PE_when ha) (PE_when hb)) fun σ H Q ⟨F, S, k⟩ => ⟨F, S, fun b F1 H1 pb g1 => by
    cases b with
    | true =>
      show (Pb true ∧ tE E G R σ H1 Q)
      exact ⟨pb, F1, S.gr g1, fun v F2 H2 g2 u2 => k v F2 H2 (g1.trans g2) u2⟩
    | false =>
      show (Pb false ∧ tE E G R σ H1 Q)
      exact ⟨pb, F1, S.gr g1, fun v F2 H2 g2 u2 => k v F2 H2 (g1.trans g2) u2⟩⟩
/-- what a call with an open argument gives -/
theorem je_openA {Rs Ss : List (V → Hp → Prop)} {r : List V → Hp → VK → Prop} (hm : ∀ x, Mo (Rx x)) (h : ∀ x, P x → RC pp r (Rs ++ Rx x :: Ss) Rz) : RC pp r (Rs ++ Som P Rx :: Ss) Rz := fun vs F H Q ok ar k => by
  have all : ∀ {Rs : List (V → Hp → Prop)} {vs : List V}, Paired (fun R v => Up R v F) (Rs ++ Som P Rx :: Ss) vs → ∃ x, P x ∧ Paired (fun R v => Up R v F) (Rs ++ Rx x :: Ss) vs := by
    intro Rs
    induction Rs with
    | nil =>
      intro vs h
      cases h with
      | cons r t =>
        obtain ⟨x, px, rx⟩ := r.here
        exact ⟨x, px, .cons ((hm x).up rx) t⟩
    | cons R0 Rs ih =>
      intro vs h
      cases h with
      | cons r t =>
        obtain ⟨x, px, t'⟩ := ih t
        exact ⟨x, px, .cons r t'⟩
  obtain ⟨x, px, t⟩ := all ar
  exact h x px vs F H Q ok t k
end
theorem js_retc {X : Cx} {E : En} {G : List Sl} {st : Stmt} {R R' : V → Hp → Prop} {N : List Sl → Prop} (p : PS X st (tS E G (Rn R) N)) (h : ∀ v F, R v F → R' v F) : PS X st (tS E G (Rn R') N) := PS_imp p fun D σ H ⟨F, S, kn, kr⟩ => ⟨F, S, kn, fun v F' H' b r => kr v F' H' b (r.imp fun F q => h v F q)⟩
/-- reading a list that may still turn, where the answer is a new Ratio -/
theorem je_viewQ {X : Cx} {E : En} {G : List Sl} {e : Expr} {i : Nat} {Rm : List V → Hp → Prop} {C : Addr} {q : Rat} (hG : G[i]? = some (.mt Rm)) (p : PE X e (tE E (G.set i (.fz (LstOf Rm))) (IsQ C q))) : PE X e (tE E G (IsQ C q)) := PE_imp p fun σ H Q ⟨F, S, k⟩ => by
  obtain ⟨p, vs, e, h1, h2, h3, h4, S'⟩ := S.freeze hG
  refine ⟨_, S', fun v F2 H2 g u => k v _ H2 (hide_gr S.ok h1 h3 g) (IsQ.up ?_)⟩
  obtain ⟨a, dx, rfl, ha⟩ := u.here
  have hp : F2 p = some (.lst vs) := g.f _ _ upd_same
  have ne : a ≠ p := fun z => by
    rw [z, hp] at ha
    cases ha
  exact ⟨a, dx, rfl, by show (if a = p then none else F2 a) = _; rw [if_neg ne]; exact ha⟩
/-- xs.append(ys.pop(d)), both of this def's own -/
theorem js_appendPop {X : Cx} {E : En} {G : List Sl} {st : Stmt} {α : Type} {Rx : α → V → Hp → Prop} {xs : List α} {i j m : Nat} {Ri : List V → Hp → Prop} {Ri' : α → List V → Hp → Prop} {Rt : V → Hp → Hp → Prop} {K : PySem.W.Frag} (hij : i ≠ j) (h : G[i]? = some (.mt Ri)) (hj : G[j]? = some (.mt (LsOf Rx xs))) (hm : m ≤ xs.length) (hl : xs.length < 1000)
    (p : PS X st (tDrop (tBM K "list" rAppend (tVar i) (tCons (tBM K "list" rPopAt (tVar j) (tCons (tE E G (Som (fun d : Nat => d < m) IsU)) tNil)) tNil))))
    (ha : ∀ x vs v F, Up Ri vs F → Up (Rx x) v F → Up (Ri' x) (vs ++ [v]) F) (hz : ∀ vs F, Ri vs F → vs.length < sizeLine) :
    PS X st (tS E G Rt (fun G' => ∃ d x, xs[d]? = some x ∧ G' = (G.set j (.mt (LsOf Rx (xs.eraseIdx d)))).set i (.mt (Ri' x)))) := PS_imp p fun D σ H ⟨F, S, kn, kr⟩ => by
  obtain ⟨p, vs, e1, h1, h2, h3, h4⟩ := S.mt i Ri h
  obtain ⟨q, ws, f1, k1, k2, k3, k4⟩ := S.mt j _ hj
  refine ⟨.ref p, e1, .inl ⟨rfl, vs, .inl (.inl h3)⟩, .ref q, f1, .inl ⟨rfl, ws, .inl (.inl k3)⟩, F, S, fun dv F1 H1 g1 u1 => ?_⟩
  obtain ⟨d, hd, ed⟩ := u1.here
  have ed : dv = .int (d : Int) := ed
  subst ed
  have S1 := S.gr g1
  obtain ⟨q', ws', f1', k1', k2', k3', k4'⟩ := S1.mt j _ hj
  rw [f1] at f1'
  cases f1'
  have hlen := k4'.here.len
  have hd1 : d < xs.length := by omega
  obtain ⟨v, hv, uv⟩ := k4'.here.get (List.getElem?_eq_getElem hd1)
  have hx : seqIndex? (d : Int) ws'.length = some d := (ixN_seq (gw_ixN (by omega : d < ws'.length))).1
  refine ⟨q, ws', (d : Int), d, v, rfl, rfl, k3', by omega, by omega, hx, hv, ?_⟩
  have er : ∀ {xs : List α} {ws : List V} {d : Nat}, LsOf Rx xs ws F1 → LsOf Rx (xs.eraseIdx d) (ws.eraseIdx d) F1 := by
    intro xs ws d a
    induction a generalizing d with
    | nil => exact .nil
    | cons r t ih =>
      cases d with
      | zero => exact t
      | succ d => exact .cons r ih
  have S2 := S1.turn hj f1 (LsOf.up (er (d := d) k4'.here))
  have h' : (G.set j (.mt (LsOf Rx (xs.eraseIdx d))))[i]? = some (.mt Ri) := by rw [List.getElem?_set_ne (Ne.symm hij)]; exact h
  obtain ⟨p', vs', e1', h1', h2', h3', h4'⟩ := S2.mt i Ri h'
  rw [e1] at e1'
  cases e1'
  refine ⟨p, vs', v, rfl, rfl, h3', hz vs' F1 h4'.here, ?_⟩
  exact kn _ σ F1 _ ⟨d, xs[d], List.getElem?_eq_getElem hd1, rfl⟩ (S2.turn h' e1 (ha xs[d] vs' v F1 h4' uv)) g1.f
section
variable {X : Cx} {E : En} {G : List Sl} {e a b : Expr} {es : List Expr} {R : V → Hp → Prop} {p pos : Pos} {ι α : Type} {Rs : ι → List (V → Hp → Prop)} {pre : ι → Prop} {x : Str} {k : Nat} {ps : List Str} {Rf : ι → V → Hp → Prop} {P : α → Prop} {Rx : α → V → Hp → Prop} {rest : List Expr}
/-- f(pot, a) where a is not known -/
theorem jcPS (T : Kn X.prog X.w X.K X.mg X.base x k ps (PrP Rs pre Rf)) (hr : Room k X.A) (hpot : ∃ i : Nat, G[i]? = some .pot) (w : α → ι) (ha : PA X (e :: es) (tAP E G [Som P Rx])) (hw : ∀ x, Rs (w x) = [Rx x]) (hm : ∀ x, Mo (Rx x)) (hp : ∀ x, P x → pre (w x)) (hR : ∀ x, P x → ∀ v F, Rf (w x) v F → R v F) (hg : Gl X x := by rfl) (hdb : (x == ("__debug__" : Str)) = false := by decide)
    (he : starEach (e :: es) X.env = (false, eval e X.env) :: starEach es X.env := by rfl) (hpl : (backTo pos (starEach es X.env)).any (·.1) = false := by rfl) : PE X (.Call (.Name x p) (e :: es) [] pos) (tE E G R) := by
  obtain ⟨f, fd, g, kp, b, ok⟩ := T
  refine PE_imp (pe_call (E := E0) ok hr hg g kp b .nil pass0 ha hdb he hpl) fun σ H Q ⟨F, S, k⟩ => ?_
  obtain ⟨i, hi⟩ := hpot
  obtain ⟨q, _, hq⟩ := S.pt i hi
  refine ⟨F, q, S, hq, fun vs F1 H1 g1 a => ?_⟩
  cases a with
  | cons r t =>
    cases t
    obtain ⟨y, py, ry⟩ := r.here
    refine ⟨F1, q, [_], w y, by rw [List.append_nil], by rw [← hq]; exact g1.ok, by rw [hw]; exact .cons ((hm y).up ry) .nil, hp y py, fun v F2 H2 g2 u => k v F2 H2 (g1.trans (by rw [hq]; exact g2)) (u.imp fun F z => hR y py v F z)⟩
/-- f(a) where a is not known -/
theorem jcS (T : Kn X.prog X.w X.K X.mg X.base x k ps (Pr Rs pre Rf)) (hr : Room k X.A) (w : α → ι) (ha : PA X (e :: es) (tA E G [Som P Rx])) (hw : ∀ x, Rs (w x) = [Rx x]) (hm : ∀ x, Mo (Rx x)) (hp : ∀ x, P x → pre (w x)) (hR : ∀ x, P x → ∀ v F, Rf (w x) v F → R v F) (hg : Gl X x := by rfl) (hdb : (x == ("__debug__" : Str)) = false := by decide)
    (he : starEach (e :: es) X.env = (false, eval e X.env) :: starEach es X.env := by rfl) (hpl : (backTo pos (starEach es X.env)).any (·.1) = false := by rfl) : PE X (.Call (.Name x p) (e :: es) [] pos) (tE E G R) := by
  obtain ⟨f, fd, g, kp, b, ok⟩ := T
  refine PE_imp (pe_call (E := E0) ok hr hg g kp b .nil pass0 ha hdb he hpl) fun σ H Q ⟨F, S, k⟩ => ?_
  refine ⟨F, S, fun vs F1 H1 g1 a => ?_⟩
  cases a with
  | cons r t =>
    cases t
    obtain ⟨y, py, ry⟩ := r.here
    exact ⟨F1, w y, g1.ok.none, by rw [hw, List.append_nil]; exact .cons ((hm y).up ry) .nil, hp y py, fun v F2 H2 g2 u => k v F2 H2 (g1.trans (g2.lift g1.ok)) (u.imp fun F z => hR y py v F z)⟩
/-- a and b, where b's answer is not known -/
theorem jwS_and1 {Pb : Bool → Prop} (p : PT X a (tTS E G Pb)) : PW X (.BoolOp .And [a] pos) (tTS E G Pb) := pw_and1 p
theorem jwS_and {b1 : Bool} {Pb : Bool → Prop} (p : PT X a (tT E G b1)) (q : b1 = true → PW X (.BoolOp .And (b :: rest) pos) (tTS E G Pb)) (h : b1 = false → Pb false) : PW X (.BoolOp .And (a :: b :: rest) pos) (tTS E G Pb) :=
  PW_imp (pw_and p (PW_when q)) fun σ H Q ⟨F, S, k⟩ => ⟨F, S, fun F1 H1 g1 => by
    cases b1 with
    | true =>
      show (true = true ∧ tTS E G Pb σ H1 Q)
      exact ⟨rfl, F1, S.gr g1, fun c F2 H2 pc g2 => k c F2 H2 pc (g1.trans g2)⟩
    | false =>
      show Q false H1
      exact k false F1 H1 (h rfl) g1⟩
end
/-- xs, a = new list, value: through the pair, as cells are stored -/
theorem js_asgMF {X : Cx} {E : En} {G : List Sl} {st : Stmt} {Rb : V → Hp → Prop} {Rm : List V → Hp → Prop} {Rt : V → Hp → Hp → Prop} {K : PySem.W.Frag} {i j : Nat} (hij : i ≠ j) (p : PS X st (tAsg (tTup (tCons (tM E G Rm) (tCons (tE E G Rb) tNil))) (gTup K 2 (gCons (gName i) (gCons (gName j) gNil))))) : PS X st (tS E G Rt (· = (G.set i (.mt Rm)).set j (.fz Rb))) := PS_imp p fun D σ H ⟨F, S, kn, kr⟩ =>
  ⟨F, S, fun q ws F1 H1 g1 n1 n2 n3 u1 => ⟨F1, S.gr g1, fun w F2 H2 g2 u2 => ⟨by show 2 ≤ sizeLine; decide, fun t ht => by
    have g3 := Gr.raw (o := HO.tup [.ref q, w]) g2.ok ht
    have np : E.pp ≠ some q := fun z => by
      obtain ⟨_, x, y, h2, _⟩ := S.ok.p q z
      rw [n1] at h2
      cases h2
    have f2 : F2 q = none := by
      cases z : F2 q with
      | none => rfl
      | some o =>
        rcases g2.n q o z with w | w
        · rw [n2] at w; cases w
        · rw [n3] at w; cases w
    have h2q := g2.k q _ n3 np
    have qt : q ≠ t := ne_of_none h2q ht
    refine ⟨t, [.ref q, w], rfl, .inl (.inl upd_same), rfl, _, _, rfl, _, _, rfl, rfl, ?_⟩
    have S1 := (S.gr ((g1.trans g2).trans g3)).set_mt (i := i) f2 (S.bs.back n1) (by rw [upd_ne qt]; exact h2q) (u1.mono g2.f) fun k Rk hk hG hs => fresh_mt S n1 hG hs
    exact kn _ _ F2 _ rfl (S1.set_fz u2) (g1.trans g2).f⟩⟩⟩
theorem ints_isU {ms : List Nat} {vs : List V} {F : Hp} (h : LsOf IsI (ms.map fun (n : Nat) => (n : Int)) vs F) : LsOf IsU ms vs F := by
  induction ms generalizing vs with
  | nil => cases h; exact .nil
  | cons m ms ih =>
    cases h with
    | cons r t => exact .cons r (ih t)
end Gw
set_option maxHeartbeats 4000000
/-! == of lists of lists of Ratios; calls by keywords; the pot handed on. -/
namespace Gw
open PySem PySem.Spec PyProof.Rows L2
def EqQ (C : Addr) (a b : Addr) (H : Hp) : Prop := ∃ q dx dy, H a = some (.ins C dx (qFs q)) ∧ H b = some (.ins C dy (qFs q))
section
variable {X : Cx} {E : En} {G : List Sl} {a b e : Expr} {es : List Expr} {p pos : Pos} {C : Addr} {k : Nat}
theorem eqQ_ext {C : Addr} : ∀ a b H H', Ext H H' → EqQ C a b H → EqQ C a b H' := fun a b H H' e ⟨q, dx, dy, h1, h2⟩ => ⟨q, dx, dy, e _ _ h1, e _ _ h2⟩
theorem sp_eqQ {vs : List V} {H : Hp} {Q : VK} {E' : XK} (h : spEq (EqQ C) vs H Q E') : spEqQ C vs H Q E' := by
  obtain ⟨a, b, rfl, ⟨q, dx, dy, h1, h2⟩, kq⟩ := h
  refine ⟨H, (q, q), ⟨Ex.refl H, fun _ h => nomatch h⟩, .cons (IsQ.up ⟨a, dx, rfl, h1⟩) (.cons (IsQ.up ⟨b, dy, rfl, h2⟩) .nil), trivial, fun v F' H' g u => ?_⟩
  have e : v = .bl (decide (q = q)) := u.here
  rw [e, decide_eq_true rfl]
  exact kq H' fun x o h => g.k x o h (fun z => nomatch z)
theorem prs_of {α : Type} {R : α → V → Hp → Prop} {D : Eqv} {F H : Hp} (hD : ∀ x v w, Up (R x) v F → Up (R x) w F → D v w H) : ∀ {xs : List α} {vs ws : List V}, LsOf R xs vs F → LsOf R xs ws F → Prs D vs ws H
  | [], [], [], _, _ => Prs.nil
  | x :: xs, v :: vs, w :: ws, .cons r t, .cons r' t' => Prs.cons (hD x v w r r') (prs_of hD t t')
theorem jeqMM {M : List (List Rat)} (T : EqK X.prog X.w X.K X.mg X.base C k) (hr : Room (k + 2) X.A) (ha : PE X a (tE E G (IsL (IsL (IsQ C)) M))) (hb : PE X b (tE E G (IsL (IsL (IsQ C)) M))) : PE X (.Compare a [.Eq] [b] pos) (tE E G (IsB true)) := by
  obtain ⟨f, fd, h1, h2, h3, h4, ok, bd⟩ := T
  have F1 := ok.imp (fun vs H Q E' h => sp_eqQ (C := C) (E' := E') h)
  have m1 : Mon (DIns C (EqQ C)) := mon_ins eqQ_ext
  have e1 : EqG X k (DIns C (EqQ C)) := eqG_ins F1 h1 h2 bd (pass00 (E' := E0))
  have e2 := eqG_list m1 e1
  have e3 := rcG_list (mon_list m1) e2
  refine je_op (pe_cmpR (op_eqG e3 hr) ha hb (nomark _)) (fun x y F H Q okk u1 u2 kq => ?_)
  obtain ⟨p, vs, rfl, hp, up⟩ := u1.here
  obtain ⟨q, ws, rfl, hq, uq⟩ := u2.here
  refine ⟨⟨p, q, vs, ws, rfl, rfl, okk.s _ _ hp, okk.s _ _ hq, prs_of (R := IsL (IsQ C)) (fun r v w a1 a2 => ?_) up.here uq.here⟩, fun H' ext => kq _ F H' ⟨Ex.refl F, fun x o h => ext _ _ (okk.s _ _ h), fun x o h _ => ext _ _ h, fun x o h => .inl h, fun x hx => ?_⟩ (fun _ _ => rfl)⟩
  · obtain ⟨p', vs', rfl, hp', up'⟩ := a1.here
    obtain ⟨q', ws', rfl, hq', uq'⟩ := a2.here
    refine ⟨p', q', vs', ws', rfl, rfl, okk.s _ _ hp', okk.s _ _ hq', prs_of (R := IsQ C) (fun r v w b1 b2 => ?_) up'.here uq'.here⟩
    obtain ⟨x, dx, rfl, hx⟩ := b1.here
    obtain ⟨y, dy, rfl, hy⟩ := b2.here
    exact ⟨x, y, dx, dy, _, _, rfl, rfl, okk.s _ _ hx, okk.s _ _ hy, r, dx, dy, okk.s _ _ hx, okk.s _ _ hy⟩
  · obtain ⟨q1, i, j, q2, q3⟩ := okk.p x hx
    exact ⟨q1, i, j, ext _ _ q2, q3⟩
/-! ### keywords -/
def KnK (P : Program) (w : World) (K : PySem.W.Frag) (mg : Str → Option Value) (base : Heap) (x : Str) (k : Nat) (ps : List Str) (sp : Sp) (n : Nat) (ks : List Str) (gV : List V → List V → List V) : Prop :=
  ∃ (f : Addr) (fd : FuncData) (g : List Value → List Value → List Value), mg x = some (.ref f) ∧ PySem.W.keepIn K (.ref f) = true ∧ KBn K fd ps n ks g gV ∧ FnOk P w K mg base CX0 k f fd ps sp
variable {ι : Type} {Rs : ι → List (V → Hp → Prop)} {pre : ι → Prop} {x : Str} {ps ks : List Str} {Rf : ι → V → Hp → Prop} {kws : List Keyword} {n : Nat} {gV : List V → List V → List V} {R1 R2 : List (V → Hp → Prop)} {R : V → Hp → Prop}
theorem jcK (T : KnK X.prog X.w X.K X.mg X.base x k ps (Pr Rs pre Rf) n ks gV) (hr : Room k X.A) (w : ι) (ha : PA X (e :: es) (tA E G R1)) (hkw : PK X kws (tA E G R2)) (h1 : R1.length = n) (h2 : R2.length = ks.length) (hg : ∀ vs ws F, Args R1 vs F → Args R2 ws F → Args (Rs w) (gV vs ws) F) (hp : pre w) (hR : Rf w = R := by exact rfl) (hgl : Gl X x := by rfl)
    (hall : (backToKw pos (keywordEach kws X.env)).all (·.1.isSome) = true := by rfl) (hks : (backToKw pos (keywordEach kws X.env)).filterMap (·.1) = ks := by rfl)
    (hdb : (x == ("__debug__" : Str)) = false := by decide) (he : starEach (e :: es) X.env = (false, eval e X.env) :: starEach es X.env := by rfl)
    (hpl : ((backTo pos (starEach (e :: es) X.env)).any (·.1) || (backToKw pos (keywordEach kws X.env)).any (·.1.isNone)) = false := by rfl) : PE X (.Call (.Name x p) (e :: es) kws pos) (tE E G R) := by
  subst hR
  obtain ⟨f, fd, g, m, kp, kb, ok⟩ := T
  refine PE_imp (pe_callN (E := E0) ok hr hgl m kp kb pass0 ha hkw hall hks hdb he hpl) fun σ H Q ⟨F, S, kq⟩ => ⟨F, S, fun vs F1 H1 g1 a1 => ⟨F1, S.gr g1, fun ws F2 H2 g2 a2 => ⟨by rw [← a1.len, h1], by rw [← a2.len, h2], ?_⟩⟩⟩
  have gg := g1.trans g2
  exact ⟨F2, w, gg.ok.none, hg vs ws F2 (a1.mono g2.f) a2, hp, fun v F' H' g' u => kq v F' H' (gg.trans (g'.lift gg.ok)) u⟩
theorem pe_callN0 {sp : Sp} {f : Addr} {fd : FuncData} {g : List Value → List Value → List Value} {tk : TA} (F : FnOk X.prog X.w X.K X.mg X.base CX0 k f fd ps sp) (hr : Room k X.A) (hg : Gl X x) (hm : X.mg x = some (.ref f)) (hk : PySem.W.keepIn X.K (.ref f) = true) (hb : KBn X.K fd ps 0 ks g gV)
    (hkw : PK X kws tk) (hall : (backToKw pos (keywordEach kws X.env)).all (·.1.isSome) = true := by rfl) (hks : (backToKw pos (keywordEach kws X.env)).filterMap (·.1) = ks := by rfl)
    (hdb : (x == ("__debug__" : Str)) = false := by decide)
    (hpl : ((backTo pos (starEach [] X.env)).any (·.1) || (backToKw pos (keywordEach kws X.env)).any (·.1.isNone)) = false := by rfl) :
    PE X (.Call (.Name x p) [] kws pos) (fun σ H Q => tk σ H fun zs H2 => zs.length = ks.length ∧ sp (gV [] zs) H2 Q E0) := by
  refine ⟨fun pins s σ H Q I h => ?_⟩
  refine wpAny_Call_Name_kw (ld_glob I hg hm ?_ hdb)
  refine PySem.W.callWith_KW0 (h₀ := X.base) I.ok.mod.kin hk hall ?_ hpl
  refine thn (hkw.run pos pins s σ H _ I h) fun ws s2 ⟨zs, H2, I2, rz, l2, q2⟩ => ⟨I2.kIn, ?_⟩
  rw [hks]
  exact run_fnN (us := []) (vs := []) F hr hb pass0 I2 .nil rz rfl l2 q2
theorem jcK0 (T : KnK X.prog X.w X.K X.mg X.base x k ps (Pr Rs pre Rf) 0 ks gV) (hr : Room k X.A) (w : ι) (hkw : PK X kws (tA E G R2)) (h2 : R2.length = ks.length) (hg : ∀ ws F, Args R2 ws F → Args (Rs w) (gV [] ws) F) (hp : pre w) (hR : Rf w = R := by exact rfl) (hgl : Gl X x := by rfl)
    (hall : (backToKw pos (keywordEach kws X.env)).all (·.1.isSome) = true := by rfl) (hks : (backToKw pos (keywordEach kws X.env)).filterMap (·.1) = ks := by rfl)
    (hdb : (x == ("__debug__" : Str)) = false := by decide)
    (hpl : ((backTo pos (starEach [] X.env)).any (·.1) || (backToKw pos (keywordEach kws X.env)).any (·.1.isNone)) = false := by rfl) : PE X (.Call (.Name x p) [] kws pos) (tE E G R) := by
  subst hR
  obtain ⟨f, fd, g, m, kp, kb, ok⟩ := T
  refine PE_imp (pe_callN0 ok hr hgl m kp kb hkw hall hks hdb hpl) fun σ H Q ⟨F, S, kq⟩ => ⟨F, S, fun ws F2 H2 g2 a2 => ⟨by rw [← a2.len, h2], ?_⟩⟩
  exact ⟨F2, w, g2.ok.none, hg ws F2 a2, hp, fun v F' H' g' u => kq v F' H' (g2.trans (g'.lift g2.ok)) u⟩
/-! ### f(g(..)) where g makes the pot -/
theorem je_newpot {fR : V → Hp → Prop} {Rl : List V → Hp → Prop} {e1 : Expr} (T : Kn X.prog X.w X.K X.mg X.base x k ps (PrP (ι := Unit) (fun _ => []) (fun _ => True) (fun _ => fR))) (hr : Room k X.A) (hE : E.pp = none) (hP : ∀ vs F, Rl vs F → ∃ i j : Int, vs = [.int i, .int j] ∧ 0 ≤ i ∧ 0 ≤ j ∧ j < 2 ^ 40) (ha : PE X e1 (tM E G Rl)) (hpl' : ∀ v F F', fR v F → fR v F') (hg : Gl X x := by rfl) (hdb : (x == ("__debug__" : Str)) = false := by decide)
    (he : starEach [e1] X.env = (false, eval e1 X.env) :: starEach [] X.env := by rfl) : PE X (.Call (.Name x p) [e1] [] pos) (tE E G fR) := by
  obtain ⟨f, fd, g, kp, b, ok⟩ := T
  refine PE_imp (pe_call (E := E0) ok hr hg g kp b .nil pass0 (pa_cons ha pa_nil he) hdb he (by rfl)) fun σ H Q ⟨F, S, kq⟩ => ⟨F, S, fun q ws F1 H1 g1 n1 n2 n3 u => ?_⟩
  obtain ⟨i, j, rfl, hi, hj, hj2⟩ := hP ws F1 u.here
  refine ⟨F1, q, [], (), rfl, ⟨g1.s, fun a ha => ?_⟩, .nil, trivial, fun v F' H' g2 u2 => kq v F' H' ?_ (fun F'' _ => hpl' v F' F'' u2.here)⟩
  · cases ha
    exact ⟨n2, i, j, n3, hi, hj, hj2⟩
  · rw [hE] at g1 ⊢
    exact {
      f := g1.f.trans g2.f
      s := g2.s
      k := fun a o h _ => g2.k a o (g1.k a o h (fun z => nomatch z)) (fun z => by
        have : a = q := (Option.some.inj z).symm
        rw [this, n1] at h
        cases h)
      n := fun a o h => by
        rcases g2.n a o h with w | w
        · exact g1.n a o w
        · exact .inr (g1.back w)
      p := fun _ z => nomatch z }
end
end Gw
set_option maxHeartbeats 4000000
namespace Gw
open PySem PySem.Spec PyProof.Rows L2
/-! ### an own error without arguments: raised, let out, caught -/
structure NwF (K : PySem.W.Frag) (mg : Str → Option Value) (NW : Addr) : Prop where
  g : mg "NotWhole" = some (.ref NW)
  x : PySem.W.excIn K NW [.type "RuntimeError", .type "Exception", .type "BaseException", .type "object"] "RuntimeError.__new__" = true
  kp : PySem.W.keepIn K (.ref NW) = true
  b : PySem.W.subIn K (.ref NW) (.type "BaseException") = some true
  t : PySem.W.typeIn K (.ref NW) = some (.type "type")
  e : PySem.W.exmOne K (.ref NW) (.ref NW) = some true
section
variable {X : Cx} {C : Addr} {bmB : List Value} {B newId initId : String}
/-- X() -/
theorem pmk_own0 {x : Str} {p pos : Pos} (F : ExcBaseFacts B newId initId bmB) (q : PySem.W.excIn X.K C bmB newId = true) (gC : X.mg x = some (.ref C)) (kC : PySem.W.keepIn X.K (.ref C) = true) (r : Raises X (.ref C)) (hg : Gl X x)
    (hdb : (x == ("__debug__" : Str)) = false := by decide) : PMk X (.Call (.Name x p) [] [] pos) (fun _ H Q => Q (.ref C) none H) := by
  intro pins s σ H Q I h
  refine wpAny_Call_Name_kw (ld_glob I hg gC ?_ hdb)
  refine PySem.W.callWith_K0 I.kIn kC ?_
  obtain ⟨bm, N, nm, qn, bs, hdct, sn, sub, ab, col, dd, k0, k1, k2, k3, k5, mN, hC, hN, hni, T⟩ := exc_obj I.kIn q
  obtain ⟨hp1, g1, d1, tk1, os1⟩ := s
  exact wpAny_call_exc_subT F T hC hN hni (fun h' e hm => mk_of I hm r h (I.hok.gone hm.new)) (Nat.zero_le _)
end
section
variable {X : Cx} {E : En} {G : List Sl} {Rt : V → Hp → Hp → Prop} {N N1 : List Sl → Prop} {NW : Addr} {pos p pos' : Pos}
abbrev WNw (NW : Addr) (E : En) (ok : Prop) : WX := fun cls d _ H => cls = .ref NW ∧ d = none ∧ ¬ ok ∧ ∃ F, Bs E F H
theorem js_raise {ok : Prop} (T : NwF X.K X.mg NW) (hc : X.calm = true) (tk : Takes X (WNw NW E ok)) (hn : ¬ ok) (hg : Gl X "NotWhole" := by rfl) : PS X (.Raise (some (.Call (.Name "NotWhole" p) [] [] pos)) none pos') (tS E G Rt N) :=
  PS_imp (ps_raise hc tk (pmk_own0 PySem.F.excBase_RuntimeError T.x T.g T.kp (raises_own T.b T.t) hg)) fun D σ H ⟨F, S, _⟩ => ⟨rfl, rfl, hn, F, S.bs⟩
end
/-- a promise with a second end: the error of the class at NW -/
def PrX {ι : Type} (NW : Addr) (Rs : ι → List (V → Hp → Prop)) (pre ok : ι → Prop) (Rz : ι → V → Hp → Prop) : Sp := fun vs H Q E => ∃ (F : Hp) (w : ι), Ok none F H ∧ Args (Rs w) vs F ∧ pre w ∧ (ok w → ∀ v F' H', Gr none F H F' H' → Up (Rz w) v F' → Q v H') ∧ (¬ ok w → ∀ F' H', Gr none F H F' H' → E (.ref NW) none H')
section
variable {P : Program} {w : World} {K : PySem.W.Frag} {mg : Str → Option Value} {base : Heap} {x qual : Str} {params : Arguments} {body : List Stmt} {scope : Scope} {dvs : List V} {kws : List (Str × V)} {f : Addr} {fd : FuncData} {N ps : List Str} {k : Nat} {ι : Type} {Rs : ι → List (V → Hp → Prop)} {pre ok : ι → Prop} {NW : Addr}
theorem fn_prX {Rz : ι → V → Hp → Prop} (Fd : FunD K x qual params body scope dvs kws f fd) (S : FnScope N ps scope) (hl : ∀ u, (Rs u).length = ps.length)
    (hb : ∀ (X : Cx) (u : ι) (E : En), (∃ cdv A outer s H E', X = cxOf (L2.CX P w) P w K mg base N qual scope f cdv A outer s H E' ∧ Room k X.A) → pre u → E.pp = none → Takes X (WNw NW E (ok u)) → PSs X body (tS E (G0 (Rs u) N.length) (fun v F _ => ok u ∧ Up (Rz u) v F) (fun _ => False))) : FnOk P w K mg base (L2.CX P w) (k + 1) f fd ps (PrX NW Rs pre ok Rz) := by
  refine Fd.ok S (fun vs H Q E ⟨F, u, _, a, _, _⟩ => by rw [← a.len, hl]) (fun cdv A outer s H vs Q E hr ⟨F, u, okk, a, hp, kq, ke⟩ => ?_)
  have tk : Takes (cxOf (L2.CX P w) P w K mg base N qual scope f cdv A outer s H E) (fun cls d _ H => E cls d H) := takes_of rfl rfl rfl rfl
  refine ⟨tS ⟨F, H, none⟩ (G0 (Rs u) N.length) (fun v F _ => ok u ∧ Up (Rz u) v F) (fun _ => False), hb _ u ⟨F, H, none⟩ ⟨cdv, A, outer, s, H, E, rfl, hr⟩ hp rfl (tk.imp fun c d σ H' ⟨e1, e2, hn, F', b⟩ => ?_), F, sat_start okk a, fun G' σ' F' H' n S' _ => n.elim, fun v F' H' b r => kq r.1 v F' H' b r.2⟩
  subst e1
  subst e2
  exact ke hn F' H' b
end
/-! ### the call in a try -/
section
variable {X : Cx} {CX : CXT} {k : Nat} {f : Addr} {fd : FuncData} {ps ks : List Str} {sp : Sp} {W : WX} {x : Str} {p pos : Pos} {kws : List Keyword} {tk : TA} {g : List Value → List Value → List Value} {gV : List V → List V → List V}
theorem pe_callN0S (F : FnOk X.prog X.w X.K X.mg X.base (L2.CX X.prog X.w) k f fd ps sp) (hr : Room k X.A) (hg : Gl X x) (hm : X.mg x = some (.ref f)) (hk : PySem.W.keepIn X.K (.ref f) = true) (hb : KBn X.K fd ps 0 ks g gV) (hx : Takes X W)
    (hkw : PK X kws tk) (hall : (backToKw pos (keywordEach kws X.env)).all (·.1.isSome) = true := by rfl) (hks : (backToKw pos (keywordEach kws X.env)).filterMap (·.1) = ks := by rfl)
    (hdb : (x == ("__debug__" : Str)) = false := by decide)
    (hpl : ((backTo pos (starEach [] X.env)).any (·.1) || (backToKw pos (keywordEach kws X.env)).any (·.1.isNone)) = false := by rfl) :
    PE X (.Call (.Name x p) [] kws pos) (fun σ H Q => tk σ H fun zs H2 => zs.length = ks.length ∧ sp (gV [] zs) H2 Q (WE W σ)) := by
  refine ⟨fun pins s σ H Q I h => ?_⟩
  refine wpAny_Call_Name_kw (ld_glob I hg hm ?_ hdb)
  refine PySem.W.callWith_KW0 (h₀ := X.base) I.ok.mod.kin hk hall ?_ hpl
  refine thn (hkw.run pos pins s σ H _ I h) fun ws s2 ⟨zs, H2, I2, rz, l2, q2⟩ => ⟨I2.kIn, ?_⟩
  rw [hks]
  have r2 := hb.rel .nil rz
  refine wpAny_call (codeAny_mono (F.run X.A X.stack s2 H2 ⟨[], ks.zip ws⟩ (g [] ws) (gV [] zs) Q (WE W σ) hr I2.env0 (hb.to s2 [] ws I2.kIn rfl (rz.length.symm.trans l2)) r2 q2) fun r s' hq => ?_)
  cases r with
  | error e => exact passAt hx σ pins H2 s2 e s' I2 hq
  | ok fl =>
    cases fl with
    | ret u => exact I2.after hq
    | next => exact False.elim hq
    | brk => exact False.elim hq
    | cont => exact False.elim hq
end
def KnX (NW : Addr) (P : Program) (w : World) (K : PySem.W.Frag) (mg : Str → Option Value) (base : Heap) (x : Str) (k : Nat) (ps : List Str) (sp : Sp) (ks : List Str) (gV : List V → List V → List V) : Prop :=
  ∃ (f : Addr) (fd : FuncData) (g : List Value → List Value → List Value), mg x = some (.ref f) ∧ PySem.W.keepIn K (.ref f) = true ∧ KBn K fd ps 0 ks g gV ∧ FnOk P w K mg base (L2.CX P w) k f fd ps sp
section
variable {X : Cx} {E : En} {G : List Sl} {k : Nat} {NW : Addr} {ι : Type} {Rs : ι → List (V → Hp → Prop)} {pre ok : ι → Prop} {x y : Str} {ps ks : List Str} {Rz : ι → V → Hp → Prop} {kws : List Keyword} {gV : List V → List V → List V} {R2 : List (V → Hp → Prop)} {R : V → Hp → Prop} {i : Nat} {p p1 p2 p3 p4 p5 p6 pos : Pos} {Rt : V → Hp → Hp → Prop} {N1 : List Sl → Prop} {b₀ : Stmt} {suite : List Stmt} {n : Str}
theorem gl_tr {pn : List (Addr × Obj)} {xe : Value → Shared → Prop} {x : Str} (h : Gl X x) : Gl (X.tr pn xe) x := h
/-- try: y = x(a=.., ..) except NotWhole: suite -/
theorem js_try_call (u : ι) (T : NwF X.K X.mg NW) (F : KnX NW X.prog X.w X.K X.mg X.base x k ps (PrX NW Rs pre ok Rz) ks gV) (hs : X.stack = X.env :: X.outer) (hf : X.env.frame = some X.env.locals) (hr : Room k X.A) (hN : X.N[i]? = some y) (nd : X.N.Nodup) (hv : X.env.scope.names.lookup y = some NameKind.local)
    (hkw : ∀ (pn : List (Addr × Obj)) (xe : Value → Shared → Prop), PassesOwn (model X.prog X.w) X.A X.env xe → PK (X.tr pn xe) kws (tA E G R2)) (h2 : R2.length = ks.length) (hg : ∀ ws F, Args R2 ws F → Args (Rs u) (gV [] ws) F) (hp : pre u)
    (hsu : ¬ ok u → ∀ (a : Addr) (oe : Obj) (pn : List (Addr × Obj)), PSs (X.suite a ((a, oe) :: pn)) (b₀ :: suite) (tS E G Rt N1)) (hN1 : ok u → N1 (G.set i (.fz (Rz u))))
    (hall : (backToKw pos (keywordEach kws X.env)).all (·.1.isSome) = true := by rfl) (hks : (backToKw pos (keywordEach kws X.env)).filterMap (·.1) = ks := by rfl)
    (hpl : ((backTo pos (starEach [] X.env)).any (·.1) || (backToKw pos (keywordEach kws X.env)).any (·.1.isNone)) = false := by rfl) (hdb : (x == ("__debug__" : Str)) = false := by decide) (hsw : swapsWith (.Call (.Name x p) [] kws pos) (some (.Name y p1)) p2.line X.env = pure false := by rfl) (hgx : Gl X x := by rfl) (hgn : Gl X "NotWhole" := by rfl) :
    PS X (.Try [.Assign [.Name y p1] (.Call (.Name x p) [] kws pos) p2] [.ExceptHandler (some (.Name "NotWhole" p3)) none (b₀ :: suite) p4] [] [] p5) (tS E G Rt N1) := by
  obtain ⟨f, fd, g, m, kp, kb, okf⟩ := F
  by_cases ho : ok u
  · refine PS_imp (ps_try_only (c := .ref NW) (Wout := fun _ _ _ _ => False) (ts := fun _ _ _ => fun _ _ _ => False) (tb := fun W => tAsg (fun σ H Q => tA E G R2 σ H fun zs H2 => zs.length = ks.length ∧ PrX NW Rs pre ok Rz (gV [] zs) H2 Q (WE W σ)) (gName i)) hs hf ⟨hgn, by decide, .inl T.g⟩ takes0 (fun W pn xe tk hpa => pss_one (ps_set (i := i) nd hN (.inl hv) (pe_callN0S okf hr hgx m kp kb tk (hkw pn xe hpa) hall hks hdb hpl) hsw (.inr hv))) (fun a oe cls d pn _ _ => ?_)) fun D σ H ⟨F, S, kn, kr⟩ => ?_
    · exact ⟨fun pins s σ H D I hw => hw.elim⟩
    · refine ⟨F, S, fun zs F2 H2 g2 a2 => ⟨by rw [← a2.len, h2], F2, u, g2.ok.none, hg zs F2 a2, hp, fun _ v F' H' g' uu => ?_, fun hn => absurd ho hn⟩⟩
      have gg := g2.trans (g'.lift g2.ok)
      exact kn _ _ F' H' (hN1 ho) ((S.gr gg).set_fz uu) gg.f
  · refine PS_imp (ps_try_only (c := .ref NW) (Wout := fun _ _ _ _ => False) (ts := fun _ cls _ => fun D σ H => cls = .ref NW ∧ tS E G Rt N1 D σ H) (tb := fun W => tAsg (fun σ H Q => tA E G R2 σ H fun zs H2 => zs.length = ks.length ∧ PrX NW Rs pre ok Rz (gV [] zs) H2 Q (WE W σ)) (gName i)) hs hf ⟨hgn, by decide, .inl T.g⟩ takes0 (fun W pn xe tk hpa => pss_one (ps_set (i := i) nd hN (.inl hv) (pe_callN0S okf hr hgx m kp kb tk (hkw pn xe hpa) hall hks hdb hpl) hsw (.inr hv))) (fun a oe cls d pn _ _ => ?_)) fun D σ H ⟨F, S, kn, kr⟩ => ?_
    · exact PSs_imp (hsu ho a oe pn) fun D σ H h => h.2
    · refine ⟨F, S, fun zs F2 H2 g2 a2 => ⟨by rw [← a2.len, h2], F2, u, g2.ok.none, hg zs F2 a2, hp, fun h => absurd h ho, fun _ F' H' g' => ?_⟩⟩
      have gg := g2.trans (g'.lift g2.ok)
      exact ⟨true, T.e, fun _ a ha => ⟨rfl, F', S.gr gg, fun G' σ' F3 H3 n S3 e3 => kn G' σ' F3 H3 n S3 (gg.f.trans e3), kr⟩, fun h => nomatch h⟩
end
end Gw
set_option maxHeartbeats 4000000
/-! repr of lists and tuples with own objects in them: where no repr is under way. -/
namespace Gw
open PySem PySem.Spec PyProof.Rows L2
open PySem.Sem (wp)
open PySem.Builtin PySem.Builtin.List
/-- where an item's repr runs -/
structure RpC (X : Cx) (A : Around) (g : List Code) (dd du : Nat) : Prop where
  hd : A.handled = none
  fr : A.frames = some X.stack
  gd : A.guards = some g
  dp : A.depth + dd < recursionLimit
  un : A.units + du < cLine
/-- the value's repr, under any repr of others than those in as -/
def RpJ (X : Cx) (as : Addr → Prop) (dd du : Nat) (H0 : Hp) (x : Value) (t : Str) : Prop :=
  ∀ (base : Nat), base + t.length ≤ sizeLine → ∀ (A : Around) (g : List Code) (E : Value → Shared → Prop) (pins : List (Addr × Obj)) (σ : L2.St) (H : Hp) (s : Shared) (Q : Str → Shared → Prop), RpC X A g dd du → (∀ b, as b → Clear g b) → Inv X pins σ H s → Ex H0 H →
    (∀ s' H', Inv X pins σ H' s' → Ex H H' → Q t s') → wpAny (model X.prog X.w) A (pyReprUnder base x) Q E s
section
variable {X : Cx} {as : Addr → Prop} {dd du : Nat} {H0 : Hp}
theorem RpJ.of_is {x : Value} {t : Str} (h : ReprIs X.prog X.w x t) : RpJ X as dd du H0 x t := fun base hb A _ E _ _ H s _ _ _ I _ k => h base hb A E s _ fun tk => k _ H (I.tok tk) (Ex.refl H)
theorem RpJ.more {as' : Addr → Prop} {dd' du' : Nat} {H1 : Hp} {x : Value} {t : Str} (h : RpJ X as dd du H0 x t) (ha : ∀ b, as b → as' b) (h1 : dd ≤ dd') (h2 : du ≤ du') (h3 : Ex H0 H1) : RpJ X as' dd' du' H1 x t :=
  fun base hb A g E pins σ H s Q c cl I e k => h base hb A g E pins σ H s Q ⟨c.hd, c.fr, c.gd, by have := c.dp; omega, by have := c.un; omega⟩ (fun b hb => cl b (ha b hb)) I (h3.trans e) k
/-- an own object, by its class's own __repr__ -/
theorem RpJ.own {C f a dx : Addr} {fs : List (Str × V)} {fd : FuncData} {sp : Sp} {k : Nat} {t : Str} (hs : PySem.W.findIn X.K (.ref C) "__repr__" = some (some (.ref f))) (hf : PySem.W.isFn X.K (.ref f) = true) (F : FnOk X.prog X.w X.K X.mg X.base CX0 k f fd ["self"] sp) (hb : Binds X.K fd ["self"] [])
    (ea : H0 a = some (.ins C dx fs)) (hsp : ∀ (H : Hp) (Q : VK), Ex H0 H → (∀ H', Ex H H' → Q (.str t) H') → sp [.ref a] H Q E0) : RpJ X as (3 * k + 6) (16 * k + 202) H0 (.ref a) t := by
  intro base hbs A g E pins σ H s Q c cl I e kq
  obtain ⟨ox, od, J⟩ := ins_inst I (e _ _ ea)
  have KX : X.K.In s.heap := I.kIn
  refine wpAny_pyReprUnder_ref (by omega) ?_
  unfold pyReprObjUnder pyReprObjBy
  refine wpAny_bind (wpAny_cRoomFor (by have := c.un; omega) ?_)
  refine wpAny_bind (wpAny_bind (J.type.here ((PySem.W.looks_findIn KX hs).here ?_)))
  show wpAny _ _ (if ((some (Value.ref f) : Option Value).isNone) = true then _ else _) _ _ _
  rw [if_neg (by simp)]
  refine wpAny_bind (m := callSpecialIfBoundBy? _ _ _) ?_
  simp only [callSpecialIfBoundBy?, bindSpecialIfBound?]
  refine wpAny_holding (wpAny_bind (wpAny_bind (wpAny_bind (J.type.here ((PySem.W.looks_findIn KX hs).here ?_)))))
  refine wpAny_bind (wpAny_askSetting (wpAny_ite ?_))
  have hl : ([Value.ref a] : List Value).length = (["self"] : List Str).length := rfl
  have b := hb s [Value.ref a] KX hl
  rw [List.append_nil] at b
  have e0 : Env0 X.prog X.w X.K X.mg X.base A X.stack s H := { I.env0 with frames := c.fr }
  have rm : Room k A := ⟨c.hd, by have := c.dp; omega, by have := c.un; omega⟩
  have fin : wpAny (model X.prog X.w) A (call (.ref f) ([.ref a] ++ [])) (fun v s' => ∃ u, v = .str t u ∧ Q t s') E s := by
    refine wpAny_call (codeAny_mono (F.run A X.stack s H ⟨[.ref a], []⟩ [.ref a] [.ref a] (fun v H' => v = .str t ∧ Ex H H') E0 rm e0 b (.cons rfl .nil) (hsp H _ e fun H' e' => ⟨rfl, e'⟩)) fun r s' hq => ?_)
    cases r with
    | error e => exact False.elim hq
    | ok fl =>
      cases fl with
      | ret u =>
        obtain ⟨v, H', J', rv, ev, eH⟩ := I.after (Q := fun v H' => v = .str t ∧ Ex H H') hq
        subst ev
        obtain ⟨tk, rfl⟩ : ∃ tk, u = .str t tk := rv
        exact ⟨tk, rfl, kq s' H' J' eH⟩
      | next => exact False.elim hq
      | brk => exact False.elim hq
      | cont => exact False.elim hq
  have back : ∀ (v : Value) (s' : Shared), (∃ u, v = .str t u ∧ Q t s') → wpAny (model X.prog X.w) A (do
        let b ← isInstance v (Value.type "str")
        if b = true then pure v
          else do
            let n ← typeNameOf v
            raiseErrorMade "TypeError" (toString "__repr__ returned non-string (type " ++ toString n ++ toString ")")) (fun v s' => ∃ x u, v = Value.str x u ∧ Q x s') E s' := fun v s' ⟨u, ev, q⟩ => by
    subst ev
    exact wpAny_bind (wpAny_isInstance (T := "str") (b := true) rfl isSubtype_str_str (wpAny_pure ⟨t, u, rfl, q⟩))
  split
  · exact wpAny_bind ((PySem.W.bind_fn KX _ (beq_iff_eq.mp hf)).here (wpAny_pure (wpAny_bind (wpAny_mono fin (fun v s' q => wpAny_pure (back v s' q)) fun _ _ z => z))))
  · exact wpAny_tryCatch (wpAny_bind ((PySem.W.bind_fn KX _ (beq_iff_eq.mp hf)).here (wpAny_pure (wpAny_bind (wpAny_mono fin (fun v s' q => wpAny_pure (back v s' q)) fun _ _ z => z)))))
/-- the items' reprs -/
abbrev RpAll (X : Cx) (as : Addr → Prop) (dd du : Nat) (H0 : Hp) (vs : List V) (ts : List Str) : Prop := Paired (fun (v : V) (t : Str) => ∀ x, RelV v x → RpJ X as dd du H0 x t) vs ts
theorem RpC.under {A : Around} {g : List Code} {id : String} {args : PySem.Args} (c : RpC X A g (dd + 1) (du + 1)) (h : (Code.builtin id args).isGuard = true) (hu : (A.under (.builtin id args)).units = A.units + 1) (hw : (Code.builtin id args).weight ≤ 1) : RpC X (A.under (.builtin id args)) (.builtin id args :: g) dd du :=
  ⟨c.hd, by show pushEnvs (Code.builtin id args).envs A.frames = _; rw [show (Code.builtin id args).envs = [] from rfl]; exact c.fr, guards_under_guard h c.gd, by have := c.dp; show A.depth + (Code.builtin id args).weight + dd < _; omega, by have := c.un; omega⟩
theorem tupFoldJ {A : Around} {g : List Code} {E : Value → Shared → Prop} {pins : List (Addr × Obj)} {σ : L2.St} (c : RpC X A g dd du) (cl : ∀ b, as b → Clear g b) : ∀ (l : List Value) (vs : List V) (ts : List Str) (acc : Array Str) (n : Nat) (H : Hp) (s : Shared) (Q : (Array Str × Nat) → Shared → Prop), Vals vs l → RpAll X as dd du H0 vs ts → n + piled ts ≤ sizeLine → Inv X pins σ H s → Ex H0 H →
    (∀ s' H', Inv X pins σ H' s' → Ex H H' → Q ⟨acc ++ ts.toArray, n + piled ts⟩ s') → wpAny (model X.prog X.w) A (forIn l (⟨acc, n⟩ : (Array Str × Nat)) tupBody) Q E s := by
  intro l
  induction l with
  | nil =>
    intro vs ts acc n H s Q r hT _ I e k
    cases r
    cases hT
    have h0 := k s H I (Ex.refl H)
    simp only [List.forIn_nil]
    exact wpAny_pure (by simpa [piled] using h0)
  | cons x l ih =>
    intro vs ts acc n H s Q r hT hn I e k
    cases r with
    | cons rx rl =>
      cases hT with
      | cons hx hl =>
        rename_i t ts'
        rw [piled_cons] at hn
        rw [List.forIn_cons]
        refine wpAny_bind (wpAny_bind (hx x rx (n + 1) (by omega) A g E pins σ H s _ c cl I e fun s' H' I' e' => wpAny_pure ?_))
        refine ih _ ts' (acc.push t) (n + (t.length + 2)) H' s' Q rl hl (by omega) I' (e.trans e') fun s'' H'' I'' e'' => ?_
        have h1 := k s'' H'' I'' (e'.trans e'')
        have e2 : n + piled (t :: ts') = n + (t.length + 2) + piled ts' := by rw [piled_cons]; omega
        rw [e2] at h1
        simpa using h1
theorem rp_tup {pins : List (Addr × Obj)} {σ : L2.St} {H : Hp} {s : Shared} (I : Inv X pins σ H s) {a : Addr} {vs : List V} (e : H a = some (.tup vs)) : ∃ (o : Obj) (its : List Value) (n : Nat), Vals vs its ∧ s.heap.get? a = some o ∧ o.cls = .type "tuple" ∧ o.data = .seq its.toArray n := by
  obtain ⟨_, its, r, t⟩ := I.hok a _ e
  obtain ⟨o, e1, e2, e3⟩ := t
  exact ⟨o, its, _, r, e1, e2, e3.choose_spec⟩
theorem wt1 {id : String} {args : PySem.Args} (h : (Code.builtin id args).frames = 0 := by rfl) (h2 : (Code.builtin id args).isCreation = false := by rfl) (h3 : (Code.builtin id args).isCaller = false := by rfl) : (Code.builtin id args).weight ≤ 1 := by
  unfold Code.weight
  rw [h, h2, h3]
  simp only [Bool.false_eq_true, if_false]
  split <;> omega
theorem wpOwn_tupleJ {id : String} {a : Addr} {vs : List V} {ts : List Str} {A : Around} {g : List Code} {R : Result → Shared → Prop} {base : Nat} {rest : List Value} {pins : List (Addr × Obj)} {σ : L2.St} {H : Hp} {s : Shared} (ea : H0 a = some (.tup vs)) (hna : ¬ as a) (hT : RpAll X as dd du H0 vs ts)
    (c : RpC X A g (dd + 1) (du + 1)) (cl : ∀ b, (b = a ∨ as b) → Clear g b) (I : Inv X pins σ H s) (e : Ex H0 H) (hcg : ∀ args, (Code.builtin id args).isGuard = true) (hcu : ∀ args, (A.under (.builtin id args)).units = A.units + 1) (hcw : ∀ args, (Code.builtin id args).weight ≤ 1) (hR : ∀ s' H' u, Inv X pins σ H' s' → Ex H H' → R (.ok (.ret (.str (tupleText ts) u))) s') (hsz : base + (tupleText ts).length ≤ sizeLine) :
    wpOwn (model X.prog X.w) A (.builtin id ⟨.ref a :: rest, []⟩) (Builtin.tupleReprAt base ⟨[.ref a], []⟩) (fun fin s' => match fin with | .done f => R (.ok f) s' | .again c' => c'.quiet = true ∧ codeAny (model X.prog X.w) A c' R s') (fun e s' => R (.error e) s') s := by
  obtain ⟨o, its, n, rv, ho, hc, hd⟩ := rp_tup I (e _ _ ea)
  have hca : Clear g a := cl a (.inl rfl)
  have hlen : ts.length = its.toArray.size := by
    have h1 := Paired.length hT
    have h2 := rv.length
    simp
    omega
  have hp := piled_le_tupleText ts
  have hsz0 : (tupleText ts).length ≤ sizeLine := by omega
  rw [tuple_repr_tree, tupleReprUnderWay_eq]
  refine wpOwn_bind (wpOwn_stackTailAny c.gd (tupGuardF_off _) (tupGuardF_pos _) ?_)
  have hn : (g.any fun c => tupGuardF (.ref a) (c, default)) = false := by
    rw [List.any_eq_false]
    intro c' hcm
    rw [tupGuardF_of_clear hca c' hcm]
    exact Bool.false_ne_true
  rw [hn]
  refine wpOwn_of_wpAny ?_
  show wpAny _ _ (tupleReprRest base (.ref a)) _ _ s
  unfold tupleReprRest Builtin.Tuple.tupleItemsOf
  refine wpAny_bind (wpAny_bind (wpAny_seqItems ho hd (wpAny_pure ?_)))
  rw [← Array.forIn_toList]
  have c2 := c.under (args := ⟨.ref a :: rest, []⟩) (id := id) (hcg _) (hcu _) (hcw _)
  refine wpAny_bind (tupFoldJ c2 (fun b hb => (cl b (.inr hb)).cons (a := a) fun e => hna (e ▸ hb)) _ vs ts _ _ H s _ (by simpa using rv) hT (by omega) I e fun s' H' I' e' => ?_)
  refine wpAny_bind (wpAny_mkStr (wpAny_pure ?_) (by simpa [tupleText, hlen] using hsz0))
  have h1 := hR { s' with toks := s'.toks + 1 } H' s'.toks (I'.tok _) e'
  simpa [tupleText, hlen] using h1
theorem RpJ.tuple {a : Addr} {vs : List V} {ts : List Str} (ea : H0 a = some (.tup vs)) (hna : ¬ as a) (hT : RpAll X as dd du H0 vs ts) : RpJ X (fun b => b = a ∨ as b) (dd + 1) (du + 1) H0 (.ref a) (tupleText ts) := by
  intro base hb A g E pins σ H s Q c cl I e kq
  obtain ⟨o, its, n, rv, ho, hc, hd⟩ := rp_tup I (e _ _ ea)
  refine wpAny_pyReprUnder_ref (by omega) (wpAny_pyReprObjUnder_twin (twin := "tuple.__repr__.under") ⟨o, ho, hc⟩ F.slot_tuple_repr rfl (by have := c.un; omega) ?_)
  exact call_twin_own (F.quiet_tuple_repr_under _) F.entry_tuple_repr_under F.check_tuple_repr_under ⟨o, ho, hc⟩ F.slot_tuple_repr (F.args_tuple_repr_1 _)
    (wpOwn_tupleJ (R := callEnd (fun v s' => (∃ x u, v = .str x u) ∧ ∃ x u, v = .str x u ∧ Q x s') E) ea hna hT c cl I e (fun args => isGuard_tuple_repr_under args) (fun args => units_under_tuple_repr_under _ args) (fun args => wt1) (fun s' H' u I' e' => ⟨⟨_, _, rfl⟩, _, _, rfl, kq s' H' I' e'⟩) hb)
theorem vals_strs : ∀ {l : List Str} {its : List Value}, Vals (l.map V.str) its → ∃ done : List (Str × Tok), its = strValues done ∧ done.map (·.1) = l
  | [], [], _ => ⟨[], rfl, rfl⟩
  | x :: l, v :: its, .cons r t => by
    obtain ⟨d, e1, e2⟩ := vals_strs t
    obtain ⟨tk, rfl⟩ : ∃ tk, v = .str x tk := r
    exact ⟨(x, tk) :: d, by rw [e1]; rfl, by rw [List.map_cons, e2]⟩
theorem rp_list {pins : List (Addr × Obj)} {σ : L2.St} {H : Hp} {s : Shared} (I : Inv X pins σ H s) {a : Addr} {vs : List V} (e : H a = some (.lst vs)) : ∃ (its : List Value) (n : Nat), Vals vs its ∧ s.heap.get? a = some { cls := .type "list", data := .seq its.toArray n } := by
  obtain ⟨_, its, n, r, t⟩ := I.hok a _ e
  exact ⟨its, n, r, t⟩
theorem listLoopJ {a P : Addr} {vs : List V} {ts : List Str} {A : Around} {g : List Code} {R : Result → Shared → Prop} {base : Nat} {pins : List (Addr × Obj)} {σ : L2.St} {H1 : Hp} (ea : H1 a = some (.lst vs)) (hP1 : H1 P = none) (e01 : Ex H0 H1) (hna : ¬ as a) (hT : RpAll X as dd du H0 vs ts)
    (c : RpC X A g (dd + 1) (du + 1)) (cl : ∀ b, (b = a ∨ as b) → Clear g b) (hR : ∀ s' H' u, Inv X pins σ H' s' → Ex H1 H' → R (.ok (.ret (.str (listText ts) u))) s') (hsz : base + (listText ts).length ≤ sizeLine) :
    ∀ (k i : Nat) (H : Hp) (s : Shared), vs.length - i = k → i ≤ vs.length → Inv X pins σ H s → Ex H1 H → H P = some (.lst ((ts.take i).map V.str)) →
      codeAny (model X.prog X.w) A (.builtin "list.__repr__.loop" ⟨[.ref a, rawInt i, .ref P, rawInt ((base + piled (ts.take i) : Nat) : Int)], []⟩) R s := by
  have hlen : ts.length = vs.length := (Paired.length hT).symm
  have hX : (listText ts).length = (textFrom 0 "[" ts).length + 1 := by
    show (textFrom 0 "[" ts ++ "]").length = _
    rw [strLen_append]; rfl
  have hL := textFrom_len ts 0 "["
  have hsz1 : ts.length ≤ sizeLine := by
    have h1 := hL.1
    rw [if_neg (Nat.lt_irrefl 0)] at h1
    omega
  have hsz2 : ∀ t ∈ ts, t.length ≤ sizeLine := fun t ht => by
    have h2 := hL.2.1 t ht
    omega
  have hsz3 : (listText ts).length ≤ sizeLine := by omega
  have hp3 := piled_le_listText ts
  intro k
  induction k with
  | zero =>
    intro i H s hk hi I e hP
    have hin : i = vs.length := by omega
    obtain ⟨its, n, rv, ha⟩ := rp_list I (e _ _ ea)
    obtain ⟨acc, m, ra, hPo⟩ := rp_list I hP
    obtain ⟨done, rfl, hdone⟩ := vals_strs ra
    have hil : its.length = vs.length := rv.length.symm
    refine codeAny_builtin F.entry_list_repr_loop ?_
    show wpAny _ _ («list.__repr__.loop» ⟨[.ref a, .int i 0, .ref P, .int ((base + piled (ts.take i) : Nat) : Int) 0], []⟩) _ _ s
    rw [repr_loop_tree]
    refine wpAny_bind (wpAny_listItems ha rfl ?_)
    have hnone : its.toArray[(i : Int).toNat]? = none := by simp [hin, hil]
    simp only [hnone]
    unfold reprEnd
    refine wpAny_bind (wpAny_listItems hPo rfl ?_)
    rw [repr_fold]
    refine wpAny_bind (wpAny_pure ?_)
    have hall : done.map (·.1) = ts := by rw [hdone, hin, ← hlen, List.take_length]
    rw [hall]
    refine wpAny_bind (wpAny_mkStr (wpAny_pure ?_) hsz3)
    exact hR _ H _ (I.tok _) e
  | succ k ih =>
    intro i H s hk hi I e hP
    have hlt : i < vs.length := by omega
    obtain ⟨its, n, rv, ha⟩ := rp_list I (e _ _ ea)
    have hil : its.length = vs.length := rv.length.symm
    obtain ⟨t, ht, hrep0⟩ := paired_get hT i vs[i] (List.getElem?_eq_getElem hlt)
    obtain ⟨x, hx, rx⟩ := paired_get rv i vs[i] (List.getElem?_eq_getElem hlt)
    have hrep := hrep0 x rx
    have hp1 := piled_take_succ ht
    have hp2 := piled_take_le ts (i + 1)
    refine codeAny_builtin F.entry_list_repr_loop ?_
    show wpAny _ _ («list.__repr__.loop» ⟨[.ref a, .int i 0, .ref P, .int ((base + piled (ts.take i) : Nat) : Int) 0], []⟩) _ _ s
    rw [repr_loop_tree]
    refine wpAny_bind (wpAny_listItems ha rfl ?_)
    have hsome : its.toArray[(i : Int).toNat]? = some x := by simp [hx]
    simp only [hsome]
    rw [Int.toNat_natCast]
    have c2 := c.under (id := "list.__repr__.loop") (args := ⟨[.ref a, rawInt i, .ref P, rawInt ((base + piled (ts.take i) : Nat) : Int)], []⟩) (isGuard_list_loop _) (units_under_list_loop _ _) wt1
    refine wpAny_bind (wpAny_holding (hrep (base + piled (ts.take i) + 1) (by omega) _ _ _ pins σ H s _ c2 (fun b hb => (cl b (.inr hb)).cons (a := a) fun e => hna (e ▸ hb)) I (e01.trans e) fun s' H' I' e' => ?_))
    refine wpAny_bind (wpAny_mkStr ?_ (hsz2 t (List.mem_of_getElem? ht)))
    refine wpAny_bind ?_
    show wpAny _ _ (updateSeq P _) _ _ _
    have hP' := e' _ _ hP
    obtain ⟨acc, m, ra, hPo⟩ := rp_list I' hP'
    have hal : acc.length = (ts.take i).length := by rw [← ra.length, List.length_map]
    have hasz : acc.toArray.size ≤ sizeLine := by
      have e4 : (ts.take i).length ≤ i := by rw [List.length_take]; omega
      simp
      omega
    refine wpAny_updateSeq hPo rfl (wpAny_pure ⟨F.quiet_list_repr_loop _, ?_⟩) hasz
    have e1 : ((i : Int) + 1) = ((i + 1 : Nat) : Int) := by omega
    have e2 : base + piled (ts.take i) + (t.length + 2) = base + piled (ts.take (i + 1)) := by omega
    rw [e1, e2]
    have hnew := Heap.get?_update_self (Obj.mapSeq fun x => x.push (Value.str t s'.toks)) hPo rfl
    have hseq : Obj.mapSeq (fun x => x.push (Value.str t s'.toks)) { cls := .type "list", data := .seq acc.toArray m } = { cls := .type "list", data := .seq (acc ++ [Value.str t s'.toks]).toArray (m + 1) } := by simp [Obj.mapSeq]
    rw [hseq] at hnew
    refine ih (i + 1) (upd H' P (.lst ((ts.take (i + 1)).map V.str))) _ (by omega) hlt (I'.write (x := P) (e := P) (t' := s'.toks + 1) (by rw [hP']; trivial) (.inl rfl) (fun b u hb hu => ?_) ⟨_, hnew⟩ ?_) ?_ upd_same
    · exact (Heap.get?_update_other _ _ (fun q : P = b => hb q.symm)).trans hu
    · refine ⟨?_, acc ++ [.str t s'.toks], _, ?_, hnew⟩
      · rw [List.length_map, List.length_take]; omega
      · rw [List.take_add_one, ht, List.map_append]
        exact ra.append (.cons ⟨_, rfl⟩ .nil)
    · intro b o hb
      have hbP : b ≠ P := fun q => by rw [q, hP1] at hb; cases hb
      rw [upd_ne hbP]
      exact e' _ _ (e _ _ hb)
theorem listAtJ {a : Addr} {v0 : V} {vs : List V} {ts : List Str} {A : Around} {g : List Code} {R : Result → Shared → Prop} {base : Nat} {pins : List (Addr × Obj)} {σ : L2.St} {H : Hp} {s : Shared} (ea : H0 a = some (.lst (v0 :: vs))) (hna : ¬ as a) (hT : RpAll X as dd du H0 (v0 :: vs) ts)
    (c : RpC X A g (dd + 1) (du + 1)) (cl : ∀ b, (b = a ∨ as b) → Clear g b) (I : Inv X pins σ H s) (e : Ex H0 H) (hR : ∀ s' H' u, Inv X pins σ H' s' → Ex H H' → R (.ok (.ret (.str (listText ts) u))) s') (hsz : base + (listText ts).length ≤ sizeLine) :
    wpAny (model X.prog X.w) A.in1 (Builtin.listReprAt base ⟨[.ref a], []⟩) (fun fin s' => match fin with | .done f => R (.ok f) s' | .again c' => c'.quiet = true ∧ codeAny (model X.prog X.w) A c' R s') (fun e s' => R (.error e) s') s := by
  obtain ⟨its, n, rv, ha⟩ := rp_list I (e _ _ ea)
  cases rv with
  | cons rx rl =>
    rename_i x l
    refine wpAny_list_repr_head (A := A.in1) c.gd (fun v rest kw hm => listSameRef_of_ne (cl a (.inl rfl) _ _ _ _ hm)) ha rfl ?_
    refine wpAny_bind (m := newList []) (wpAny_newObj_type ?_)
    refine wpAny_pure ⟨F.quiet_list_repr_loop _, ?_⟩
    have hn : H s.heap.objs.size = none := I.hok.fresh (Nat.le_refl _)
    have I' : Inv X pins σ (upd H s.heap.objs.size (.lst [])) { s with heap := s.heap.push { cls := .type "list", data := .seq (#[] : Array Value) }, toks := s.toks } := I.laid (fun b u hb => Heap.get?_push_of_some _ hb) (Nat.le_refl _)
      ⟨Nat.zero_le _, [], 0, .nil, Heap.get?_push_size _ rfl⟩
    have e' : Ex H (upd H s.heap.objs.size (.lst [])) := fun b o hb => by
      have : b ≠ s.heap.objs.size := fun q => by rw [q, hn] at hb; cases hb
      rw [upd_ne this]; exact hb
    exact listLoopJ (H1 := H) (P := s.heap.objs.size) (e _ _ ea) hn e hna hT c cl hR hsz _ 0 _ _ rfl (Nat.zero_le _) I' e' upd_same
theorem RpJ.list {a : Addr} {vs : List V} {ts : List Str} (ea : H0 a = some (.lst vs)) (hna : ¬ as a) (hT : RpAll X as dd du H0 vs ts) : RpJ X (fun b => b = a ∨ as b) (dd + 1) (du + 1) H0 (.ref a) (listText ts) := by
  intro base hb A g E pins σ H s Q c cl I e kq
  obtain ⟨its, n, rv, ha⟩ := rp_list I (e _ _ ea)
  have hTy : s.TypeIs (.ref a) "list" := ⟨_, ha, rfl⟩
  cases hT with
  | nil =>
    cases rv
    exact wpAny_pyReprUnder_ref (by omega) (wpAny_pyReprObjUnder_list_empty hTy (by have := c.un; omega) ha rfl ⟨_, _, rfl, kq _ H (I.tok _) (Ex.refl H)⟩)
  | cons hx hl =>
    refine wpAny_pyReprUnder_ref (by omega) (wpAny_pyReprObjUnder_twin (twin := "list.__repr__.under") hTy F.slot_list_repr.toG rfl (by have := c.un; omega) ?_)
    exact call_twin_plain F.plain_list_repr_under F.entry_list_repr_under F.check_list_repr_under hTy F.slot_list_repr.toG (F.args_list_repr_1 _)
      (listAtJ (R := callEnd (fun v s' => (∃ x u, v = .str x u) ∧ ∃ x u, v = .str x u ∧ Q x s') E) ea hna (.cons hx hl) c cl I e (fun s' H' u I' e' => ⟨⟨_, _, rfl⟩, _, _, rfl, kq s' H' I' e'⟩) hb)
/-- the top call of repr on a tuple -/
theorem reprTupJ {a : Addr} {vs : List V} {ts : List Str} (ea : H0 a = some (.tup vs)) (hna : ¬ as a) (hT : RpAll X as dd du H0 vs ts) {A : Around} {E : Value → Shared → Prop} {pins : List (Addr × Obj)} {σ : L2.St} {H : Hp} {s : Shared} {Q : Value → Shared → Prop}
    (c : RpC X A [] (dd + 4) (du + 8)) (I : Inv X pins σ H s) (e : Ex H0 H) (hsz : (tupleText ts).length ≤ sizeLine) (kq : ∀ s' H' u, Inv X pins σ H' s' → Ex H H' → Q (.str (tupleText ts) u) s') : wpAny (model X.prog X.w) A (call (.builtin "repr") [.ref a]) Q E s := by
  obtain ⟨o, its, n, rv, ho, hc, hd⟩ := rp_tup I (e _ _ ea)
  have hTy : s.TypeIs (.ref a) "tuple" := ⟨o, ho, hc⟩
  refine Calls.call_function_entry F.kind_repr F.plain_repr F.entry_repr (F.args_repr1 _) ?_
  unfold Builtin.«repr»
  refine wpAny_bind (m := oneArg "repr" _) (wpAny_pure ?_)
  refine wpAny_bind (wpAny_cRoomFor (by have := c.un; show A.units + 1 < _; omega) ?_)
  refine wpAny_bind (wpAny_specialOf (name := Str.ofString "__repr__") hTy F.slot_tuple_repr.lookup ?_)
  refine wpAny_bind (m := callSpecialIfBound? (.ref a) (Str.ofString "__repr__")) (wpAny_callSpecialIfBound?_slotG (name := Str.ofString "__repr__") hTy F.slot_tuple_repr ?_)
  have c1 : RpC X A.in1 [] (dd + 1) (du + 1) := ⟨c.hd, c.fr, c.gd, by have := c.dp; show A.depth + _ < _; omega, by have := c.un; show A.units + 1 + _ < _; omega⟩
  refine wpAny_call (codeAny_call_builtin_own (Code.quiet_builtin _ (by decide +kernel)) F.entry_tuple_repr (F.slot_tuple_repr.check _ _ _ _ _ _ _ _ hTy (F.args_tuple_repr_1 _)
    (wpOwn_tupleJ (rest := []) (base := 0) (R := callEnd _ E) ea hna hT c1 (fun b _ => Clear.nil b) I e (fun args => isGuard_tuple_repr args) (fun args => units_under_tuple_repr _ args) (fun args => wt1) (fun s' H' u I' e' => ?_) (by omega))))
  exact wpAny_bind (wpAny_isInstance (T := "str") (b := true) rfl isSubtype_str_str (wpAny_pure ⟨_, rfl, kq s' H' u I' e'⟩))
/-- the top call of repr on a list -/
theorem reprListJ {a : Addr} {vs : List V} {ts : List Str} (ea : H0 a = some (.lst vs)) (hna : ¬ as a) (hT : RpAll X as dd du H0 vs ts) {A : Around} {E : Value → Shared → Prop} {pins : List (Addr × Obj)} {σ : L2.St} {H : Hp} {s : Shared} {Q : Value → Shared → Prop}
    (c : RpC X A [] (dd + 4) (du + 8)) (I : Inv X pins σ H s) (e : Ex H0 H) (hsz : (listText ts).length ≤ sizeLine) (kq : ∀ s' H' u, Inv X pins σ H' s' → Ex H H' → Q (.str (listText ts) u) s') : wpAny (model X.prog X.w) A (call (.builtin "repr") [.ref a]) Q E s := by
  obtain ⟨its, n, rv, ha⟩ := rp_list I (e _ _ ea)
  have hTy : s.TypeIs (.ref a) "list" := ⟨_, ha, rfl⟩
  refine Calls.call_function_entry F.kind_repr F.plain_repr F.entry_repr (F.args_repr1 _) ?_
  unfold Builtin.«repr»
  refine wpAny_bind (m := oneArg "repr" _) (wpAny_pure ?_)
  refine wpAny_bind (wpAny_cRoomFor (by have := c.un; show A.units + 1 < _; omega) ?_)
  refine wpAny_bind (wpAny_specialOf (name := Str.ofString "__repr__") hTy F.slot_list_repr.lookup ?_)
  refine wpAny_bind (m := callSpecialIfBound? (.ref a) (Str.ofString "__repr__")) (wpAny_callSpecialIfBound?_slot (name := Str.ofString "__repr__") hTy F.slot_list_repr ?_)
  have c1 : RpC X A.in1 [] (dd + 1) (du + 1) := ⟨c.hd, c.fr, c.gd, by have := c.dp; show A.depth + _ < _; omega, by have := c.un; show A.units + 1 + _ < _; omega⟩
  have fin : wpAny (model X.prog X.w) A.in1 (call (.builtin "list.__repr__") [.ref a]) (fun v s' => ∃ u, v = .str (listText ts) u ∧ Q (.str (listText ts) u) s') E s := by
    cases hT with
    | nil =>
      cases rv
      exact call_list_repr_empty hTy ha rfl ⟨_, rfl, kq _ H _ (I.tok _) (Ex.refl H)⟩
    | cons hx hl =>
      exact wpAny_call (codeAny_call_builtin F.slot_list_repr.plain F.entry_list_repr (F.slot_list_repr.check _ _ _ _ _ _ _ _ hTy (F.args_list_repr_1 _)
        (listAtJ (base := 0) (R := callEnd (fun v s' => ∃ u, v = .str (listText _) u ∧ Q (.str (listText _) u) s') E) ea hna (.cons hx hl) c1 (fun b _ => Clear.nil b) I e (fun s' H' u I' e' => ⟨u, rfl, kq s' H' u I' e'⟩) (by omega))))
  refine wpAny_mono fin (fun v s' q => ?_) fun _ _ z => z
  obtain ⟨u, rfl, q⟩ := q
  refine wpAny_bind (wpAny_isInstance (T := "str") (b := true) rfl isSubtype_str_str ?_)
  exact wpAny_pure ⟨_, rfl, q⟩
end
end Gw
set_option maxHeartbeats 4000000
/-! Defs that want to know that no repr is under way where they're called. -/
namespace Gw
open PySem PySem.Spec PyProof.Rows L2
/-- a def's promise where no repr is under way -/
structure FnG (P : Program) (w : World) (K : PySem.W.Frag) (mg : Str → Option Value) (base : Heap) (CX : CXT) (k : Nat) (f : Addr) (fd : FuncData) (ps : List Str) (sp : Sp) : Prop where
  len : ∀ vs H Q E, sp vs H Q E → vs.length = ps.length
  run : ∀ (A : Around) (outer : List Env) (s : Shared) (H : Hp) (args : PySem.Args) (us : List Value) (vs : List V) (Q : VK) (E : XK), Room k A → A.guards = some [] → Env0 P w K mg base A outer s H → BindsTo s fd args (ps.zip us) → Vals vs us → sp vs H Q E →
    codeAny (model P w) A (.call (.ref f) args) (CR CX outer P w H s Q E) s
section
variable {P : Program} {w : World} {K : PySem.W.Frag} {mg : Str → Option Value} {base : Heap} {x qual : Str} {params : Arguments} {body : List Stmt} {scope : Scope} {dvs : List V} {kws : List (Str × V)} {f : Addr} {fd : FuncData} {N ps : List Str} {k : Nat} {sp : Sp}
theorem fn_ofG {CX : CXT} (F : FunD K x qual params body scope dvs kws f fd) (S : FnScope N ps scope) (len : ∀ vs H Q E, sp vs H Q E → vs.length = ps.length)
    (hbody : ∀ (cdv : Value) (A : Around) (outer : List Env) (s : Shared) (H : Hp) (vs : List V) (Q : VK) (E : XK), Room k (A.deeper (envOfC qual scope s.heap.objs.size f cdv)) → A.guards = some [] → sp vs H Q E →
      ∃ t, PSs (cxOf CX P w K mg base N qual scope f cdv A outer s H E) body t ∧ t { nx := fun _ H' => Q .non H', rt := Q } (start N vs) H) : FnG P w K mg base CX (k + 1) f fd ps sp := by
  obtain ⟨oc, od, dV, kV, doc, pm, an, cdv, ct, osl, rfl, lk, hcd, _, _⟩ := F.ex
  refine ⟨len, fun A outer s H args us vs Q E hr hG e0 hb r hsp => ?_⟩
  have KX : K.In s.heap := e0.mod.kin.keeps fun b o e => (e0.bs b o e).1
  have lim : s.heap.NoLimit := e0.mod.nolimit.keeps fun b o e => (e0.bs b o e).1
  refine codeAny_call_function hr.depth (KX _ _ lk) rfl S.co S.gen rfl (PySem.W.codeRec_of KX hcd) (hb _ _ _ _ (wpAny_newFunctionEnv_cells S.kind (fun ⟨n, v⟩ hy => ?_) fun env he s1 x => ?_))
  · exact (S.par n (List.of_mem_zip hy).1).elim .inl fun q => .inr ⟨q, PySem.W.cellsFrom_some _ _ _ (.inl q)⟩
  subst he
  obtain ⟨t, ht, hq⟩ := hbody cdv A outer s H vs Q E (hr.deeper _) hG hsp
  refine ⟨lim.keeps x.toInCall.keep, codeAny_func (wpAny_mono (ht.run [] s1 (start N vs) H _ (inv_start S hr.hd e0 (len _ _ _ _ hsp) r x) hq) (fun fl s' hs => ?_) fun e s' hs => hs)⟩
  cases fl with
  | ret u =>
    obtain ⟨v, σ', H', J, rv, q⟩ := hs
    exact ⟨v, H', J.os, J.bare, J.base, J.hok, rv, q⟩
  | next =>
    obtain ⟨σ', H', J, q⟩ := hs
    exact ⟨.non, H', J.os, J.bare, J.base, J.hok, rfl, q⟩
  | brk =>
    obtain ⟨_, _, _, q⟩ := hs
    exact q.elim
  | cont =>
    obtain ⟨_, _, _, q⟩ := hs
    exact q.elim
end
section
variable {X : Cx} {CX : CXT} {k : Nat} {f : Addr} {fd : FuncData} {ps : List Str} {sp : Sp} {dvs : List V} {ds : List Value} {E : XK} {x : Str} {p pos : Pos} {e : Expr} {es : List Expr} {t : TA}
theorem run_fnG {pins : List (Addr × Obj)} {σ : L2.St} {H : Hp} {s : Shared} {Q : VK} {us : List Value} {vs : List V} (F : FnG X.prog X.w X.K X.mg X.base CX k f fd ps sp) (hr : Room k X.A) (hG : X.A.guards = some []) (hb : Binds X.K fd ps ds) (hd : Vals dvs ds) (hx : Passes CX X E)
    (I : Inv X pins σ H s) (r : Vals vs us) (h : sp (vs ++ dvs) H Q E) : wpAny (model X.prog X.w) X.A (call (.ref f) us) (EP X pins σ Q) X.xe s := by
  have r2 : Vals (vs ++ dvs) (us ++ ds) := r.append hd
  have hl : (us ++ ds).length = ps.length := by rw [← r2.length]; exact F.len _ _ _ _ h
  refine wpAny_call (codeAny_mono (F.run X.A X.stack s H ⟨us, []⟩ (us ++ ds) (vs ++ dvs) Q E hr hG I.env0 (hb s us I.kIn hl) r2 h) fun r s' hq => ?_)
  cases r with
  | error e => exact hx pins σ H s e s' I hq
  | ok fl =>
    cases fl with
    | ret u => exact I.after hq
    | next => exact hq.elim
    | brk => exact hq.elim
    | cont => exact hq.elim
theorem pe_callG (F : FnG X.prog X.w X.K X.mg X.base CX k f fd ps sp) (hr : Room k X.A) (hG : X.A.guards = some []) (hg : Gl X x) (hm : X.mg x = some (.ref f)) (hk : PySem.W.keepIn X.K (.ref f) = true) (hb : Binds X.K fd ps ds) (hd : Vals dvs ds) (hx : Passes CX X E)
    (ha : PA X (e :: es) t) (hdb : (x == ("__debug__" : Str)) = false := by decide) (he : starEach (e :: es) X.env = (false, eval e X.env) :: starEach es X.env := by rfl) (hpl : (backTo pos (starEach es X.env)).any (·.1) = false := by rfl) :
    PE X (.Call (.Name x p) (e :: es) [] pos) (tCall sp dvs E t) :=
  ⟨fun pins s σ H Q I h => wpAny_Call_Name_kw (ld_glob I hg hm (PySem.W.callWith_K (h₀ := X.base) I.ok.mod.kin hk (thn (ha.run pos pins s σ H _ I h) fun us s1 ⟨vs, H1, I1, r, q⟩ => ⟨I1.kIn, run_fnG F hr hG hb hd hx I1 r q⟩) he hpl) hdb)⟩
end
def KnG (P : Program) (w : World) (K : PySem.W.Frag) (mg : Str → Option Value) (base : Heap) (x : Str) (k : Nat) (ps : List Str) (sp : Sp) : Prop :=
  ∃ (f : Addr) (fd : FuncData), mg x = some (.ref f) ∧ PySem.W.keepIn K (.ref f) = true ∧ Binds K fd ps [] ∧ FnG P w K mg base CX0 k f fd ps sp
section
variable {P : Program} {w : World} {K : PySem.W.Frag} {mg : Str → Option Value} {base : Heap} {x qual : Str} {params : Arguments} {body : List Stmt} {scope : Scope} {dvs : List V} {kws : List (Str × V)} {f : Addr} {fd : FuncData} {N ps : List Str} {k : Nat} {ι : Type} {Rs : ι → List (V → Hp → Prop)} {pre : ι → Prop}
theorem fnG_pr {Rz : ι → V → Hp → Prop} (Fd : FunD K x qual params body scope dvs kws f fd) (S : FnScope N ps scope) (hl : ∀ u, (Rs u).length = ps.length)
    (hb : ∀ (X : Cx) (u : ι) (E : En), (∃ cdv A outer s H E', X = cxOf CX0 P w K mg base N qual scope f cdv A outer s H E' ∧ Room k X.A) → X.A.guards = some [] → pre u → E.pp = none → PSs X body (tS E (G0 (Rs u) N.length) (Rn (Rz u)) (fun _ => False))) : FnG P w K mg base CX0 (k + 1) f fd ps (Pr Rs pre Rz) := by
  refine fn_ofG Fd S (fun vs H Q E ⟨F, u, ok, a, _, _⟩ => by rw [← a.len, hl]) (fun cdv A outer s H vs Q E hr hG ⟨F, u, ok, a, hp, kq⟩ => ?_)
  exact ⟨tS ⟨F, H, none⟩ (G0 (Rs u) N.length) (Rn (Rz u)) (fun _ => False), hb _ u ⟨F, H, none⟩ ⟨cdv, A, outer, s, H, E, rfl, hr⟩ hG hp rfl, F, sat_start ok a, fun G' σ' F' H' n S' _ => n.elim, fun v F' H' b r => kq v F' H' b r⟩
theorem fnG_prP {Rz : ι → V → Hp → Prop} (Fd : FunD K x qual params body scope dvs kws f fd) (S : FnScope N ps scope) (hl : ∀ u, (Rs u).length + 1 = ps.length) (hn : 0 < N.length)
    (hb : ∀ (X : Cx) (u : ι) (E : En), (∃ cdv A outer s H E', X = cxOf CX0 P w K mg base N qual scope f cdv A outer s H E' ∧ Room k X.A) → X.A.guards = some [] → pre u → PSs X body (tS E (GP (Rs u) N.length) (Rn (Rz u)) (fun _ => False))) : FnG P w K mg base CX0 (k + 1) f fd ps (PrP Rs pre Rz) := by
  refine fn_ofG Fd S (fun vs H Q E ⟨F, q, us, u, e, ok, a, _, _⟩ => by rw [e, List.length_cons, ← a.len, hl]) (fun cdv A outer s H vs Q E hr hG ⟨F, q, us, u, e, ok, a, hp, kq⟩ => ?_)
  subst e
  exact ⟨tS ⟨F, H, some q⟩ (GP (Rs u) N.length) (Rn (Rz u)) (fun _ => False), hb _ u ⟨F, H, some q⟩ ⟨cdv, A, outer, s, H, E, rfl, hr⟩ hG hp, F, sat_startP ok a hn, fun G' σ' F' H' n S' _ => n.elim, fun v F' H' b r => kq v F' H' b r⟩
end
section
variable {X : Cx} {E : En} {G : List Sl} {e : Expr} {es : List Expr} {R : V → Hp → Prop} {p pos : Pos} {ι : Type} {Rs : ι → List (V → Hp → Prop)} {pre : ι → Prop} {x : Str} {k : Nat} {ps : List Str} {Rf : ι → V → Hp → Prop}
theorem jcG (T : KnG X.prog X.w X.K X.mg X.base x k ps (Pr Rs pre Rf)) (hr : Room k X.A) (hG : X.A.guards = some []) (w : ι) (ha : PA X (e :: es) (tA E G (Rs w))) (hp : pre w) (hR : Rf w = R := by exact rfl) (hg : Gl X x := by rfl) (hdb : (x == ("__debug__" : Str)) = false := by decide)
    (he : starEach (e :: es) X.env = (false, eval e X.env) :: starEach es X.env := by rfl) (hpl : (backTo pos (starEach es X.env)).any (·.1) = false := by rfl) : PE X (.Call (.Name x p) (e :: es) [] pos) (tE E G R) := by
  subst hR
  obtain ⟨f, fd, g, kp, b, ok⟩ := T
  exact je_f (E' := E0) w (pe_callG ok hr hG hg g kp b .nil pass0 ha hdb he hpl) hp
theorem jcPG (T : KnG X.prog X.w X.K X.mg X.base x k ps (PrP Rs pre Rf)) (hr : Room k X.A) (hG : X.A.guards = some []) (hpot : ∃ i : Nat, G[i]? = some .pot) (w : ι) (ha : PA X (e :: es) (tAP E G (Rs w))) (hp : pre w) (hR : Rf w = R := by exact rfl) (hg : Gl X x := by rfl) (hdb : (x == ("__debug__" : Str)) = false := by decide)
    (he : starEach (e :: es) X.env = (false, eval e X.env) :: starEach es X.env := by rfl) (hpl : (backTo pos (starEach es X.env)).any (·.1) = false := by rfl) : PE X (.Call (.Name x p) (e :: es) [] pos) (tE E G R) := by
  subst hR
  obtain ⟨f, fd, g, kp, b, ok⟩ := T
  exact je_fP (E' := E0) w hpot (pe_callG ok hr hG hg g kp b .nil pass0 ha hdb he hpl) hp
end
/-! ### the law's own call -/
section
variable {P : Program} {w : World} {K : PySem.W.Frag} {mg mb : Str → Option Value} {k : Nat} {fa a : Addr} {fd : FuncData} {x : Str} {sp : Sp} {s₁ : Shared} {vs : List Value} {ns : List Int}
/-- at any tracked heap that holds the script at most -/
theorem law_coreG (KX : K.In s₁.heap) (hns : s₁.heap.Ns mainGlobals mg) (hb : s₁.heap.Ns builtinsNs mb) (hbb : ∀ x : Str, x ≠ "__name__" → mb x = bootBuiltins x) (hlim : s₁.heap.NoLimit) (hg : s₁.gens = #[])
    (ha : s₁.heap.get? a = some { cls := .type "list", data := .seq vs.toArray }) (hr : Room k callerA)
    (F : ∀ base : Heap, K.In base → base.Ns mainGlobals mg → FnG P w K mg base CX0 k fa fd [x] sp) (hbind : ∀ (s : Shared) (u : Value), BindsTo s fd ⟨[u], []⟩ [(x, u)])
    {H : Hp} (hO : Only H) (hsp : sp [.ref a] H (fun v _ => v = .bl true) fun _ _ _ => False) (hok : HOk P w H s₁.heap) (hA : ∀ b, H b ≠ none → b = a) (hK : H a ≠ none → K.lookup a = none) :
    codeAny (model P w) callerA (.call (.ref fa) ⟨[.ref a], []⟩) (fun r s' => r = .ok (.ret (.bool true)) ∧ OldK s₁.heap s'.heap ∧ s'.os = s₁.os ∧ AllBare s'.gens) s₁ := by
  have out : ∀ {b : Addr}, b ≠ a → H b = none := fun {b} h => Classical.byContradiction fun z => h (hA b z)
  have notA : ∀ {b : Addr} {o : Obj} {es : Array DictEntry} {ep : Nat}, s₁.heap.get? b = some o → o.data = .dict es ep → H b = none := fun {b o es ep} e d => out fun e' => by
    subst e'
    rw [ha] at e
    cases e
    have d' : Data.seq vs.toArray _ = Data.dict es ep := d
    cases d'
  have nsK : ∀ {b : Addr} {m : Str → Option Value}, s₁.heap.Ns b m → (hidT s₁.heap H).Ns b m := fun ⟨o, es, ep, e, d, r⟩ => ⟨o, es, ep, hidT_get e (notA e d), d, r⟩
  have hKb : K.In (hidT s₁.heap H) := fun b o e => hidT_get (KX b o e) (Classical.byContradiction fun z => by
    have e' := hA b z
    subst e'
    rw [hK z] at e
    cases e)
  have hM : Mod K mg (hidT s₁.heap H) := ⟨hKb, nsK hns, ⟨mb, nsK hb, hbb⟩, hlim.elim fun mc h => ⟨mc, nsK h.1, h.2⟩⟩
  have e0 : Env0 P w K mg (hidT s₁.heap H) callerA [] s₁ H := ⟨rfl, hM, fun b o e => of_hidT e, Nat.le_of_eq (hidT_size _ _), trivial, fun b hb => absurd (show b ∈ ([] : List Addr) from hb) (by simp), hok, .of_eq hg⟩
  refine codeAny_mono ((F _ hKb (nsK hns)).run callerA [] s₁ H ⟨[.ref a], []⟩ [.ref a] [.ref a] _ _ hr rfl e0 (hbind s₁ (.ref a)) (.cons rfl .nil) hsp) fun r s' h => ?_
  cases r with
  | error e => exact h.elim
  | ok fl =>
    cases fl with
    | next => exact h.elim
    | brk => exact h.elim
    | cont => exact h.elim
    | ret u =>
      obtain ⟨v, H', os, bare, un, hok', r', q⟩ := h
      have q' : v = .bl true := q
      subst q'
      obtain rfl : u = Value.bool true := r'
      refine ⟨rfl, OldK.of_keep fun b o e => ?_, os, bare⟩
      cases q : H b with
      | none => exact un.keep b o e q (by intro z; exact absurd (show b ∈ ([] : List Addr) from z) (by simp)) (by simp)
      | some u =>
        rcases hO b with z | ⟨ob, xs, z⟩
        · rw [q] at z; cases z
        · obtain ⟨e1, _⟩ := hok b _ z
          obtain ⟨e2, _⟩ := hok' b _ (un.frzs b ob _ z)
          rw [e] at e1; cases e1
          exact e2
theorem law_callG (KX : K.In s₁.heap) (hns : s₁.heap.Ns mainGlobals mg) (hb : s₁.heap.Ns builtinsNs mb) (hbb : ∀ x : Str, x ≠ "__name__" → mb x = bootBuiltins x) (hlim : s₁.heap.NoLimit) (hg : s₁.gens = #[])
    (ha : s₁.heap.get? a = some { cls := .type "list", data := .seq vs.toArray }) (hi : IntsAre vs ns) (hl : ns.length ≤ sizeLine) (hr : Room k callerA)
    (F : ∀ base : Heap, K.In base → base.Ns mainGlobals mg → FnG P w K mg base CX0 k fa fd [x] sp) (hbind : ∀ (s : Shared) (u : Value), BindsTo s fd ⟨[u], []⟩ [(x, u)])
    (hsp : ∀ H : Hp, Only H → SqL K H a (ns.map V.int) → sp [.ref a] H (fun v _ => v = .bl true) fun _ _ _ => False) :
    codeAny (model P w) callerA (.call (.ref fa) ⟨[.ref a], []⟩) (fun r s' => r = .ok (.ret (.bool true)) ∧ OldK s₁.heap s'.heap ∧ s'.os = s₁.os ∧ AllBare s'.gens) s₁ := by
  have rv := vals_ints hi
  have lenV := hi.length
  cases hk : K.lookup a with
  | some o =>
    have e := KX a o hk
    rw [ha] at e
    cases e
    exact law_coreG (H := fun _ => none) KX hns hb hbb hlim hg ha hr F hbind (fun _ => .inl rfl) (hsp _ (fun _ => .inl rfl) (.inr ⟨_, vs.toArray, _, hk, rfl, rfl, rfl, by rw [List.size_toArray, lenV]; exact hl, by simpa using rv⟩)) (fun b u z => nomatch z) (fun b z => absurd rfl z) fun z => absurd rfl z
  | none =>
    let o1 : HO := .frz { cls := .type "list", data := .seq vs.toArray } (.lst (ns.map V.int))
    have h1 : upd (fun _ => none) a o1 a = some o1 := upd_same
    have h2 : ∀ {b : Addr}, b ≠ a → upd (fun _ => none) a o1 b = none := fun h => upd_ne h
    have hO : Only (upd (fun _ => none) a o1) := fun b => (Classical.em (b = a)).elim (fun e => .inr ⟨_, _, (congrArg (upd (fun _ => none) a o1) e).trans h1⟩) fun e => .inl (h2 e)
    refine law_coreG KX hns hb hbb hlim hg ha hr F hbind hO (hsp _ hO (.inl (.inr ⟨_, h1⟩))) (fun b u z => ?_) (fun b z => Classical.byContradiction fun e => z (h2 e)) fun _ => hk
    have e : b = a := Classical.byContradiction fun e => by rw [h2 e] at z; cases z
    subst e
    rw [h1] at z
    cases z
    exact ⟨ha, by rw [List.length_map]; exact hl, vs, _, rv, ha⟩
end
theorem walk_ofG {l : PySem.W.OpenLaw} {n k : Nat} {q : Program} {loose : List Str} {XP : (Str → Option Value) → Heap → Prop} {YP : World → Heap → Prop} {d : DefRec} {x : Str}
    (hn : l.most = some n) (hn2 : n ≤ sizeLine) (hdf : d.params.defaults = []) (hr : Room k callerA)
    (F : ∀ (w : World) (mg : Str → Option Value) (fa : Addr) (h : Heap), YP w h → h.Ns mainGlobals mg → mg d.name = some (.ref fa) →
      ∃ (K : PySem.W.Frag) (fd : FuncData) (sp : Sp), K.In h ∧ (∀ (s : Shared) (u : Value), BindsTo s fd ⟨[u], []⟩ [(x, u)]) ∧
        (∀ (H : Hp) (a : Addr) (ns : List Int), ns.length ≤ n → Only H → SqL K H a (ns.map V.int) → sp [.ref a] H (fun v _ => v = .bl true) fun _ _ _ => False) ∧
        ∀ base : Heap, K.In base → base.Ns mainGlobals mg → FnG l.prog w K mg base CX0 k fa fd [x] sp) :
    PySem.W.WalkO q loose XP YP l.row.toRowW d [] (fun f vs => PySem.call f vs) := by
  refine Att.attach_call hn hdf fun w s₀ s₁ mg mb fa o pm cd doc a vs ns G Y ho hd hcd hmg hobj hints hlen hg => ?_
  obtain ⟨K, fd, sp, KX, hb, hsp, hF⟩ := F w mg fa _ Y G.T.g hmg
  exact law_callG KX G.T.g G.T.b G.T.builtins G.T.nolimit hg hobj hints (Nat.le_trans hlen hn2) hr hF hb (fun H hO hS => hsp H a ns hlen hO hS)
end Gw
set_option maxHeartbeats 4000000
/-! What values of a kind are written as; the call of repr on a list. -/
namespace Gw
open PySem PySem.Spec PyProof.Rows L2
/-- how a class's instances are written -/
def RepF (P : Program) (w : World) (K : PySem.W.Frag) (mg : Str → Option Value) (base : Heap) (C : Addr) (k : Nat) (pre : Rat → Prop) (qt : Rat → Str) : Prop :=
  ∃ (f : Addr) (fd : FuncData), PySem.W.findIn K (.ref C) "__repr__" = some (some (.ref f)) ∧ PySem.W.isFn K (.ref f) = true ∧ Binds K fd ["self"] [] ∧ FnOk P w K mg base CX0 k f fd ["self"] (Pr (fun q : Rat => [IsQ C q]) pre fun q => IsS (qt q))
/-- values of the kind R are written as t, whatever of as is under way besides -/
def Wr (X : Cx) (as : Hp → Addr → Prop) (dd du : Nat) (R : V → Hp → Prop) (t : Str) : Prop := ∀ v F, Up R v F → ∀ x, RelV v x → RpJ X (as F) dd du F x t
abbrev as0 : Hp → Addr → Prop := fun _ _ => False
abbrev as1 : Hp → Addr → Prop := fun F b => ∃ vs, F b = some (.tup vs)
abbrev as2 : Hp → Addr → Prop := fun F b => as1 F b ∨ ∃ vs, F b = some (.lst vs) ∧ ∀ v ∈ vs, ∃ a ws, v = .ref a ∧ F a = some (.tup ws)
section
variable {X : Cx} {as : Hp → Addr → Prop} {dd du : Nat} {R : V → Hp → Prop} {t : Str}
theorem Wr.more {as' : Hp → Addr → Prop} {dd' du' : Nat} (h : Wr X as dd du R t) (ha : ∀ F b, as F b → as' F b) (h1 : dd ≤ dd') (h2 : du ≤ du') : Wr X as' dd' du' R t := fun v F u x r => (h v F u x r).more (ha F) h1 h2 (Ex.refl F)
theorem wr_I {i : Int} (hi : i.natAbs.log2 < 1920) : Wr X as0 dd du (IsI i) (toString i) := fun v F u x r => by
  have e : v = .int i := u.here
  subst e
  obtain ⟨tk, rfl⟩ := r
  exact .of_is (ReprIs.int tk hi)
theorem wr_Q {C : Addr} {k : Nat} {pre : Rat → Prop} {qt : Rat → Str} {q : Rat} (T : RepF X.prog X.w X.K X.mg X.base C k pre qt) (hp : pre q) : Wr X as0 (3 * k + 6) (16 * k + 202) (IsQ C q) (qt q) := fun v F u x r => by
  obtain ⟨f, fd, hs, hf, hb, ok⟩ := T
  obtain ⟨a, dx, rfl, ha⟩ := u.here
  obtain rfl : x = .ref a := r
  refine RpJ.own hs hf ok hb ha fun H Q e kq => ⟨F, q, ⟨e, fun _ h => nomatch h⟩, .cons u .nil, hp, fun v F' H' g u' => ?_⟩
  have e2 : v = .str (qt q) := u'.here
  subst e2
  exact kq H' fun b o hb => g.k b o hb fun z => nomatch z
/-- texts of values of kinds, one by one -/
theorem rpAll_args {Rs : List (V → Hp → Prop)} {ts : List Str} (h : Paired (Wr X as dd du) Rs ts) {F : Hp} : ∀ {vs : List V}, Args Rs vs F → RpAll X (as F) dd du F vs ts := by
  induction h with
  | nil => intro vs a; cases a; exact .nil
  | cons h1 _ ih =>
    intro vs a
    cases a with
    | cons u1 a => exact .cons (fun x r => h1 _ _ u1 x r) (ih a)
theorem rpAll_ls {α : Type} {Rx : α → V → Hp → Prop} {tx : α → Str} {F : Hp} : ∀ {xs : List α} {vs : List V}, (∀ x ∈ xs, Wr X as dd du (Rx x) (tx x)) → LsOf Rx xs vs F → RpAll X (as F) dd du F vs (xs.map tx)
  | [], vs, _, l => by cases l; exact .nil
  | x :: xs, vs, h, l => by
    cases l with
    | cons u a => exact .cons (fun y r => h x (List.mem_cons_self ..) _ _ u y r) (rpAll_ls (fun z hz => h z (List.mem_cons_of_mem _ hz)) a)
theorem wr_tp {Rs : List (V → Hp → Prop)} {ts : List Str} (h : Paired (Wr X as0 dd du) Rs ts) : Wr X as1 (dd + 1) (du + 1) (IsTp Rs) (tupleText ts) := fun v F u x r => by
  obtain ⟨a, vs, rfl, ha, uu⟩ := u.here
  obtain rfl : x = .ref a := r
  exact (RpJ.tuple ha (fun z => z) (rpAll_args h uu.here)).more (fun b hb => hb.elim (fun e => ⟨vs, by rw [e]; exact ha⟩) fun z => z.elim) (Nat.le_refl _) (Nat.le_refl _) (Ex.refl F)
theorem wr_lt {α : Type} {Rs : α → List (V → Hp → Prop)} {tx : α → Str} {xs : List α} (h : ∀ x ∈ xs, Wr X as1 dd du (IsTp (Rs x)) (tx x)) : Wr X as2 (dd + 1) (du + 1) (IsL (fun x => IsTp (Rs x)) xs) (listText (xs.map tx)) := fun v F u x r => by
  obtain ⟨a, vs, rfl, ha, uu⟩ := u.here
  obtain rfl : x = .ref a := r
  have hall : ∀ {xs : List α} {vs : List V}, LsOf (fun x => IsTp (Rs x)) xs vs F → ∀ v ∈ vs, ∃ a ws, v = .ref a ∧ F a = some (.tup ws) := fun l => by
    induction l with
    | nil => intro v hv; cases hv
    | cons u1 _ ih =>
      intro v hv
      rcases List.mem_cons.mp hv with rfl | hv
      · obtain ⟨a, ws, e1, e2, _⟩ := u1.here
        exact ⟨a, ws, e1, e2⟩
      · exact ih v hv
  refine (RpJ.list ha (fun z => ?_) (rpAll_ls h uu.here)).more (fun b hb => hb.elim (fun e => .inr ⟨vs, by rw [e]; exact ha, hall uu.here⟩) .inl) (Nat.le_refl _) (Nat.le_refl _) (Ex.refl F)
  obtain ⟨ws, e⟩ := z
  rw [ha] at e
  cases e
/-- repr([a, ..]) of kinds whose texts are known -/
def rRepr (Rs : List (V → Hp → Prop)) (t : Str) : List V → Hp → VK → Prop := fun xs H Q => ∃ F vs a, xs = [.ref a] ∧ Ex F H ∧ F a = some (.lst vs) ∧ Args Rs vs F ∧ ∀ H', Ex H H' → Q (.str t) H'
theorem call_repr {Rs : List (V → Hp → Prop)} {ts : List Str} (hd : X.A.handled = none) (hG : X.A.guards = some []) (hdp : X.A.depth + (dd + 4) < recursionLimit) (hun : X.A.units + (du + 8) < cLine)
    (h : Paired (Wr X as2 dd du) Rs ts) (hne : ∃ R, R ∈ Rs ∧ ∀ v F, R v F → ∃ a ws, v = .ref a ∧ F a = some (.lst ws)) (hsz : (listText ts).length ≤ sizeLine) : CallR X (.builtin "repr") (rRepr Rs (listText ts)) := by
  intro pins s σ H xs us Q I r hr
  obtain ⟨F, vs, a, rfl, e, ha, hA, k⟩ := hr
  cases r with
  | cons r0 rt =>
    cases rt
    obtain rfl := r0
    refine reprListJ ha (fun z => ?_) (rpAll_args h hA) ⟨hd, I.ok.frames, hG, hdp, hun⟩ I e hsz fun s' H' u I' e' => ⟨.str (listText ts), H', I', ⟨u, rfl⟩, k H' e'⟩
    rcases z with ⟨ws, z⟩ | ⟨ws, z, hall⟩
    · rw [ha] at z
      cases z
    · rw [ha] at z
      cases z
      obtain ⟨R, hR, hk⟩ := hne
      obtain ⟨i, hi⟩ := List.getElem?_of_mem hR
      obtain ⟨v, hv, u⟩ := hA.get hi
      obtain ⟨b, ws, rfl, hb⟩ := hk v F u.here
      obtain ⟨b', ws', e1, e2⟩ := hall _ (List.mem_of_getElem? hv)
      cases e1
      rw [hb] at e2
      cases e2
theorem rc_repr {pp : Option Addr} {Rs : List (V → Hp → Prop)} {t : Str} : RC pp (rRepr Rs t) [LstOf (Args Rs)] (IsS t) := fun vs F H Q ok a k => by
  cases a with
  | cons u a =>
    cases a
    obtain ⟨p, ws, rfl, hp, uu⟩ := u.here
    refine ⟨F, ws, p, rfl, ok.s, hp, uu.here, fun H' e => k _ F H' ⟨Ex.refl F, ok.s.trans e, fun b o hb _ => e _ _ hb, fun _ _ h => .inl h, fun b hb => ?_⟩ fun _ _ => rfl⟩
    obtain ⟨h1, x, y, h2, h3⟩ := ok.p b hb
    exact ⟨h1, x, y, e _ _ h2, h3⟩
end
end Gw
set_option maxHeartbeats 4000000
/-! range from a place on; a new list of what stands in a list. -/
namespace Gw
open PySem PySem.Spec PyProof.Rows L2
section
variable {X : Cx} {E : En} {G : List Sl}
def fromTo (a n : Nat) : List Nat := (List.range (n - a)).map fun i => a + i
theorem fromTo_get {a n i x : Nat} (h : (fromTo a n)[i]? = some x) : x = a + i ∧ i < n - a := by
  unfold fromTo at h
  rw [List.getElem?_map] at h
  by_cases hi : i < n - a
  · rw [List.getElem?_range hi] at h
    exact ⟨(Option.some.inj h).symm, hi⟩
  · rw [List.getElem?_eq_none (by simpa using hi)] at h
    cases h
theorem ji_range2 {a n : Nat} {tg e : Expr} (ha : a < 2 ^ 62) (hn : n < 2 ^ 62) (p : PI X tg e (iRng2 (tA E G [IsU a, IsU n]))) : PI X tg e (tI E G IsU (fromTo a n)) := PI_imp p fun σ H Rj ⟨F, S, k⟩ =>
  ⟨F, S, fun vs F1 H1 g1 ar => by
    cases ar with
    | cons r t => cases t with
      | cons r2 t2 =>
        cases t2
        refine ⟨(a : Int), (n : Int), by rw [r.here, r2.here], ⟨by omega, by exact_mod_cast ha, by omega, by exact_mod_cast hn⟩, k _ F1 H1 g1 ?_⟩
        have hl : (fromTo a n).length = n - a := by simp [fromTo]
        have hm : ((n : Int) - (a : Int)).toNat = n - a := by omega
        refine ⟨fun i F2 H2 hi _ _ => ?_, fun F2 H2 _ _ => ?_, fun i x F2 H2 v H3 hx _ o y => ?_⟩
        · show i < ((n : Int) - (a : Int)).toNat
          rw [hl] at hi
          omega
        · show ((n : Int) - (a : Int)).toNat ≤ _
          rw [hl, hm]
          exact Nat.le_refl _
        · obtain ⟨rfl, rfl⟩ := y
          obtain ⟨rfl, _⟩ := fromTo_get hx
          exact ⟨F2, o.gr, fun _ _ => by show V.int ((a : Int) + (i : Int)) = V.int ((a + i : Nat) : Int); rw [Int.natCast_add]⟩⟩
theorem js_par3FMM {st : Stmt} {Rt : V → Hp → Hp → Prop} {Ra : V → Hp → Prop} {i j l : Nat} {Rm Rl : List V → Hp → Prop} (hij : i ≠ j) (hil : i ≠ l) (hjl : j ≠ l) (p : PS X st (tPar3 i j l (tCons (tE E G Ra) (tCons (tM E G Rm) (tCons (tM E G Rl) tNil))))) : PS X st (tS E G Rt (· = ((G.set i (.fz Ra)).set j (.mt Rm)).set l (.mt Rl))) := PS_imp p fun D σ H ⟨F, S, kn, kr⟩ =>
  ⟨F, S, fun v F0 H0 g0 u0 => ⟨F0, S.gr g0, fun q ws F1 H1 g1 n1 n2 n3 u1 => ⟨F1, S.gr (g0.trans g1), fun q' ws' F2 H2 g2 m1 m2 m3 u2 => ⟨v, .ref q, .ref q', rfl, by
    have nq : q ≠ q' := ne_of_none n3 m1
    have np : E.pp ≠ some q := fun z => by
      obtain ⟨_, x, y, h2, _⟩ := (S.gr g0).ok.p q z
      rw [n1] at h2
      cases h2
    have f2 : F2 q = none := by
      cases z : F2 q with
      | none => rfl
      | some o =>
        rcases g2.n q o z with w | w
        · rw [n2] at w; cases w
        · rw [n3] at w; cases w
    have S0 : Sat E (G.set i (.fz Ra)) (σ.set i (some v)) F2 H2 := (S.gr ((g0.trans g1).trans g2)).set_fz (u0.mono (g1.f.trans g2.f))
    have off : ∀ {k : Nat} {Rk : List V → Hp → Prop} {r : Addr}, (G.set i (.fz Ra))[k]? = some (.mt Rk) → (σ.set i (some v))[k]? = some (some (.ref r)) → G[k]? = some (.mt Rk) ∧ σ[k]? = some (some (.ref r)) := fun {k Rk r} hG hs => by
      by_cases z : k = i
      · subst z
        have hl : k < G.length := by
          have := (List.getElem?_eq_some_iff.mp hG).1
          simpa using this
        rw [List.getElem?_set_self hl] at hG
        cases hG
      · rw [List.getElem?_set_ne (Ne.symm z)] at hG hs
        exact ⟨hG, hs⟩
    have S1 := S0.set_mt (i := j) f2 ((S.gr g0).bs.back n1) (g2.k q _ n3 np) (u1.mono g2.f) fun k Rk hk hG hs => fresh_mt (S.gr g0) n1 (off hG hs).1 (off hG hs).2
    refine kn _ _ F2 H2 rfl (S1.set_mt m2 ((S.gr (g0.trans g1)).bs.back m1) m3 u2 fun k Rk hk hG hs => ?_) ((g0.trans g1).trans g2).f
    by_cases z : k = j
    · subst z
      have hl : k < (σ.set i (some v)).length := by
        have := (List.getElem?_eq_some_iff.mp hs).1
        simpa using this
      rw [List.getElem?_set_self hl] at hs
      cases hs
      exact nq rfl
    · rw [List.getElem?_set_ne (Ne.symm z)] at hG hs
      exact fresh_mt (S.gr (g0.trans g1)) m1 (off hG hs).1 (off hG hs).2⟩⟩⟩⟩
theorem js_asgSom {α : Type} {P : α → Prop} {R1 R2 : α → V → Hp → Prop} {st : Stmt} {Rt : V → Hp → Hp → Prop} {i j : Nat} {K : PySem.W.Frag} (p : PS X st (tAsg (tE E G (Som P (fun g => IsTp [R1 g, R2 g]))) (gTup K 2 (gCons (gName i) (gCons (gName j) gNil))))) : PS X st (tS E G Rt (fun G' => ∃ g, P g ∧ G' = (G.set i (.fz (R1 g))).set j (.fz (R2 g)))) := PS_imp p fun D σ H ⟨F, S, kn, kr⟩ =>
  ⟨F, S, fun v F1 H1 g1 u1 => by
    obtain ⟨g, pg, a, vs, rfl, ha, hu⟩ := u1.here
    have hu := hu.here
    cases hu with
    | cons r1 t1 =>
      cases t1 with
      | cons r2 t2 =>
        cases t2
        exact ⟨a, _, rfl, .inl (.inl ((S.gr g1).ok.s _ _ ha)), rfl, _, _, rfl, _, _, rfl, rfl, kn _ _ F1 H1 ⟨g, pg, rfl⟩ (((S.gr g1).set_fz r1).set_fz r2) g1.f⟩⟩
theorem rcm_list {α : Type} {Rx : α → V → Hp → Prop} {xs : List α} {K : PySem.W.Frag} {pp : Option Addr} : RCM pp (fun us H Q => ∃ p ys, us = [.ref p] ∧ (SqL K H p ys ∨ SqT K H p ys) ∧ ∀ l, H l = none → Q (.ref l) (upd H l (.lst ys))) [IsL Rx xs] (LsOf Rx xs) := fun vs F H Q ok a k => by
  cases a with
  | cons r t =>
    cases t
    obtain ⟨p, ys, rfl, h, u⟩ := r.here
    refine ⟨p, ys, rfl, .inl (SqL.of (ok.s _ _ h)), fun l hl => k l ys F _ (Gr.raw ok hl) hl ?_ upd_same u⟩
    cases e : F l with
    | none => rfl
    | some o => rw [ok.s _ _ e] at hl; cases hl
end
end Gw
set_option maxHeartbeats 4000000
/-! repr of bools, != of texts and bools, is True; loops of an unknown length; calls where no repr is under way. -/
namespace Gw
open PySem PySem.Spec PyProof.Rows L2
def bT (b : Bool) : Str := if b then "True" else "False"
section
variable {X : Cx} {pp : Option Addr}
def rReprB : List V → Hp → VK → Prop := fun xs H Q => ∃ b, xs = [.bl b] ∧ Q (.str (bT b)) H
theorem call_repr_bool : CallR X (.builtin "repr") rReprB := by
  intro pins s σ H xs us Q I r h
  obtain ⟨b, rfl, q⟩ := h
  cases r with
  | cons r0 rt =>
    cases rt
    obtain rfl := r0
    have e : (bT b : Str) = (if b then ("True" : String) else ("False" : String) : Str) := by cases b <;> rfl
    exact PySem.P.repr_of_bool ⟨.str (bT b), H, I.tok _, ⟨_, by cases b <;> rfl⟩, q⟩
theorem rc_reprB {b : Bool} : RC pp rReprB [IsB b] (IsS (bT b)) := fun vs F H Q ok a k => by
  cases a with
  | cons r t =>
    cases t
    exact ⟨b, by rw [r.here], k _ F H ok.gr fun F' _ => rfl⟩
theorem rop_neS {s t : Str} : ROp pp rNe (IsS s) (IsS t) (IsB (!decide (s = t))) := fun x y F H Q ok u1 u2 k => by
  rw [u1.here, u2.here]
  refine ⟨rfl, k _ F H ok.gr fun F' _ => ?_⟩
  show V.bl _ = V.bl _
  congr 1
  simp
theorem rop_eqS {s t : Str} : ROp pp rEq (IsS s) (IsS t) (IsB (decide (s = t))) := fun x y F H Q ok u1 u2 k => by
  rw [u1.here, u2.here]
  refine ⟨rfl, k _ F H ok.gr fun F' _ => ?_⟩
  show V.bl _ = V.bl _
  congr 1
  simp
theorem rop_neB {s t : Bool} : ROp pp rNe (IsB s) (IsB t) (IsB (!decide (s = t))) := fun x y F H Q ok u1 u2 k => by
  rw [u1.here, u2.here]
  refine ⟨rfl, k _ F H ok.gr fun F' _ => ?_⟩
  show V.bl _ = V.bl _
  congr 1
  simp
theorem rop_isBl {a b : Bool} : ROp pp rIsB (IsB a) (IsB b) (IsB (decide (a = b))) := fun x y F H Q ok u1 u2 k => ⟨a, b, u1.here, u2.here, k _ F H ok.gr fun F' _ => rfl⟩
theorem rop_notBl {a b : Bool} : ROp pp rNotB (IsB a) (IsB b) (IsB (!decide (a = b))) := fun x y F H Q ok u1 u2 k => ⟨a, b, u1.here, u2.here, k _ F H ok.gr fun F' _ => rfl⟩
end
/-! ### kinds turned -/
theorem lsv_imp {α : Type} {R R' : α → V → Hp → Prop} {xs : List α} {vs : List V} {F : Hp} (h : LsOf R xs vs F) (k : ∀ x v F, R x v F → R' x v F) : LsOf R' xs vs F := Paired.mapP h fun x v u => u.imp fun F q => k x v F q
theorem lsv_map {α β : Type} {R : α → V → Hp → Prop} {R' : β → V → Hp → Prop} {g : α → β} {xs : List α} {vs : List V} {F : Hp} (h : LsOf R xs vs F) (k : ∀ x v F, R x v F → R' (g x) v F) : LsOf R' (xs.map g) vs F := by
  unfold LsOf at h ⊢
  induction h with
  | nil => exact .nil
  | cons r t ih => exact .cons (r.imp fun F q => k _ _ F q) ih
theorem lstv_to {R R' : List V → Hp → Prop} (k : ∀ vs F, R vs F → R' vs F) : ∀ v F, LstOf R v F → LstOf R' v F := fun v F ⟨a, vs, e, h, u⟩ => ⟨a, vs, e, h, u.imp fun F q => k vs F q⟩
theorem tupv_to {R R' : List V → Hp → Prop} (k : ∀ vs F, R vs F → R' vs F) : ∀ v F, TupOf R v F → TupOf R' v F := fun v F ⟨a, vs, e, h, u⟩ => ⟨a, vs, e, h, u.imp fun F q => k vs F q⟩
/-! ### loops of an unknown length -/
def tIS {α ι : Type} (E : En) (G : List Sl) (R : α → V → Hp → Prop) (P : ι → Prop) (xs : ι → List α) : TI := fun σ H Rj => ∃ F, Sat E G σ F H ∧ ∀ i J F' H', P i → Gr E.pp F H F' H' → Src E.pp J F' R (xs i) → Rj J H'
section
variable {X : Cx} {E : En} {G : List Sl} {e : Expr} {pos : Pos} {body : List Stmt} {Rt : V → Hp → Hp → Prop} {N : List Sl → Prop}
theorem src_range {pp : Option Addr} {n : Nat} {F : Hp} : Src pp (Itr 0 (n : Int).toNat) F IsU (List.range n) where
  go := fun i F1 H1 hi _ _ => by
    show i < (n : Int).toNat
    rw [List.length_range] at hi
    simpa using hi
  stop := fun F1 H1 _ _ => by
    show (n : Int).toNat ≤ _
    rw [List.length_range]
    simp
  yld := fun i x F1 H1 v H2 hx _ o y => by
    obtain ⟨rfl, rfl⟩ := y
    have hi : i < n := by have := (List.getElem?_eq_some_iff.mp hx).1; rwa [List.length_range] at this
    rw [List.getElem?_range hi] at hx
    cases hx
    exact ⟨F1, o.gr, fun _ _ => by show V.int (0 + (i : Int)) = V.int (i : Int); rw [Int.zero_add]⟩
theorem ji_rangeS {P : Nat → Prop} {tg : Expr} (hP : ∀ n, P n → n < 2 ^ 62) (p : PI X tg e (iRng1 (tA E G [Som P IsU]))) : PI X tg e (tIS E G IsU P List.range) := PI_imp p fun σ H Rj ⟨F, S, k⟩ =>
  ⟨F, S, fun vs F1 H1 g1 a => by
    cases a with
    | cons r t =>
      cases t
      obtain ⟨n, hn, e⟩ := r.here
      refine ⟨(n : Int), by rw [show _ = V.int (n : Int) from e], by omega, by have := hP n hn; exact_mod_cast this, k n _ F1 H1 hn g1 src_range⟩⟩
theorem js_forS {α ι : Type} {Rx : α → V → Hp → Prop} {P : ι → Prop} {xs : ι → List α} {tg iter : Expr} {idx : List Nat} {f : α → List Sl → List Sl} (hp : PassesOwn (model X.prog X.w) X.A X.env X.xe) (hc : X.calm = true)
    (hi : PI X tg iter (tIS E G Rx P xs)) (hg : ∀ x, PG X tg (tG E (Rx x) idx (f x))) (Iv : ι → Nat → List Sl → Prop) (h0 : ∀ i, P i → Iv i 0 G)
    (hb : ∀ (w : ι) (i : Nat) (x : α) (G1 : List Sl), P w → (xs w)[i]? = some x → Iv w i G1 → PSs X body (tS E (f x G1) Rt (Iv w (i + 1)))) (hN : ∀ w G1, P w → Iv w (xs w).length G1 → N G1)
    (hs : ∀ x, foldedSetIterable iter X.env x = pure x := by intro _; rfl) : PS X (.For tg iter body [] pos) (tS E G Rt N) := by
  have pg : PG X tg (fun v σ H Q => ∃ x, tG E (Rx x) idx (f x) v σ H Q) := ⟨fun pins s σ H v u Q I r ⟨x, h⟩ => (hg x).run pins s σ H v u Q I r h⟩
  have pb := PSs_any (X := X) (st := body) (ι := { q : ι × Nat × α × List Sl // P q.1 ∧ (xs q.1)[q.2.1]? = some q.2.2.1 ∧ Iv q.1 q.2.1 q.2.2.2 }) (t := fun q => tS E (f q.1.2.2.1 q.1.2.2.2) Rt (Iv q.1.1 (q.1.2.1 + 1))) fun q => hb _ _ _ _ q.2.1 q.2.2.1 q.2.2.2
  refine PS_imp (ps_for hp hc hi pg pb hs) fun D σ H ⟨F, S, kn, kr⟩ => ?_
  refine ⟨F, S, fun w J F1 H1 hw g1 src => ?_⟩
  refine ⟨fun i m σ2 H2 => m = (xs w).length - i ∧ i ≤ (xs w).length ∧ ∃ G2 F2, Iv w i G2 ∧ Sat E G2 σ2 F2 H2 ∧ Ex F1 F2, ⟨(xs w).length, rfl, Nat.zero_le _, G, F1, h0 w hw, S.gr g1, Ex.refl _⟩, ?_⟩
  rintro i m σ2 H2 ⟨rfl, hi', G2, F2, iv, S2, e2⟩
  by_cases hlt : i < (xs w).length
  · have hx : (xs w)[i]? = some (xs w)[i] := List.getElem?_eq_getElem hlt
    refine .inr ⟨src.go i F2 H2 hlt e2 S2.ok.s, fun σ3 H3 => ∃ G3 F3, Iv w (i + 1) G3 ∧ Sat E G3 σ3 F3 H3 ∧ Ex F1 F3, fun σ3 H3 ⟨G3, F3, iv3, S3, e3⟩ => ⟨(xs w).length - (i + 1), by omega, rfl, hlt, G3, F3, iv3, S3, e3⟩, fun v H3 y => ?_⟩
    obtain ⟨F3, g3, u3⟩ := src.yld i _ F2 H2 v H3 hx e2 S2.ok y
    refine ⟨(xs w)[i], G2, F3, S2.gr g3, u3, fun σ4 _ S4 => ?_⟩
    exact ⟨⟨(w, i, (xs w)[i], G2), hw, hx, iv⟩, F3, S4, fun G5 σ5 F5 H5 n5 S5 e5 => ⟨G5, F5, n5, S5, (e2.trans g3.f).trans e5⟩, kr⟩
  · have e : i = (xs w).length := by omega
    subst e
    exact .inl ⟨src.stop F2 H2 e2 S2.ok.s, kn G2 σ2 F2 H2 (hN w G2 hw iv) S2 (g1.f.trans e2)⟩
/-! ### f(g(..)) where g makes the pot and no repr is under way -/
variable {ι : Type} {x : Str} {ps : List Str} {k : Nat} {p : Pos}
theorem je_newpotG {fR : V → Hp → Prop} {Rl : List V → Hp → Prop} {e1 : Expr} (T : KnG X.prog X.w X.K X.mg X.base x k ps (PrP (ι := Unit) (fun _ => []) (fun _ => True) (fun _ => fR))) (hr : Room k X.A) (hG : X.A.guards = some []) (hE : E.pp = none) (hP : ∀ vs F, Rl vs F → ∃ i j : Int, vs = [.int i, .int j] ∧ 0 ≤ i ∧ 0 ≤ j ∧ j < 2 ^ 40) (ha : PE X e1 (tM E G Rl)) (hpl' : ∀ v F F', fR v F → fR v F') (hg : Gl X x := by rfl) (hdb : (x == ("__debug__" : Str)) = false := by decide)
    (he : starEach [e1] X.env = (false, eval e1 X.env) :: starEach [] X.env := by rfl) : PE X (.Call (.Name x p) [e1] [] pos) (tE E G fR) := by
  obtain ⟨f, fd, g, kp, b, ok⟩ := T
  refine PE_imp (pe_callG (E := E0) ok hr hG hg g kp b .nil pass0 (pa_cons ha pa_nil he) hdb he (by rfl)) fun σ H Q ⟨F, S, kq⟩ => ⟨F, S, fun q ws F1 H1 g1 n1 n2 n3 u => ?_⟩
  obtain ⟨i, j, rfl, hi, hj, hj2⟩ := hP ws F1 u.here
  refine ⟨F1, q, [], (), rfl, ⟨g1.s, fun a ha => ?_⟩, .nil, trivial, fun v F' H' g2 u2 => kq v F' H' ?_ (fun F'' _ => hpl' v F' F'' u2.here)⟩
  · cases ha
    exact ⟨n2, i, j, n3, hi, hj, hj2⟩
  · rw [hE] at g1 ⊢
    exact {
      f := g1.f.trans g2.f
      s := g2.s
      k := fun a o h _ => g2.k a o (g1.k a o h (fun z => nomatch z)) (fun z => by
        have : a = q := (Option.some.inj z).symm
        rw [this, n1] at h
        cases h)
      n := fun a o h => by
        rcases g2.n a o h with w | w
        · exact g1.n a o w
        · exact .inr (g1.back w)
      p := fun _ z => nomatch z }
end
end Gw
set_option maxHeartbeats 1000000
/-! Values of any kind, as trees: what stands for them, how they're written, of which kind they are. -/
namespace Gw
open PySem PySem.Spec PyProof.Rows L2
inductive Dv where
  | non | bl (b : Bool) | int (i : Int) | str (s : Str) | q (r : Rat) | em | lst (l : List Dv) | tup (l : List Dv)
def IsEm (v : V) (F : Hp) : Prop := ∃ a, v = .ref a ∧ F a = some (.dK [])
mutual
def IsDv (C : Addr) : Dv → V → Hp → Prop
  | .non => IsN
  | .bl b => IsB b
  | .int i => IsI i
  | .str s => IsS s
  | .q r => IsQ C r
  | .em => IsEm
  | .lst l => LstOf (DvL C l)
  | .tup l => TupOf (DvL C l)
def DvL (C : Addr) : List Dv → List V → Hp → Prop
  | [] => fun vs _ => vs = []
  | d :: l => fun vs F => ∃ v ws, vs = v :: ws ∧ Up (IsDv C d) v F ∧ DvL C l ws F
end
theorem dvL_ls {C : Addr} : ∀ {l : List Dv} {vs : List V} {F : Hp}, DvL C l vs F → LsOf (IsDv C) l vs F
  | [], vs, F, h => by
    have : vs = [] := h
    subst this
    exact .nil
  | d :: l, vs, F, h => by
    obtain ⟨v, ws, rfl, u, t⟩ := (show ∃ v ws, vs = v :: ws ∧ Up (IsDv C d) v F ∧ DvL C l ws F from h)
    exact .cons u (dvL_ls t)
theorem ls_dvL {C : Addr} : ∀ {l : List Dv} {vs : List V} {F : Hp}, LsOf (IsDv C) l vs F → DvL C l vs F
  | [], [], F, _ => rfl
  | d :: l, v :: ws, F, .cons u t => ⟨v, ws, rfl, u, ls_dvL t⟩
theorem dv_l {C : Addr} {l : List Dv} : ∀ v F, IsDv C (.lst l) v F → IsL (IsDv C) l v F := fun v F h => lstv_to (fun vs F q => dvL_ls q) v F h
theorem l_dv {C : Addr} {l : List Dv} : ∀ v F, IsL (IsDv C) l v F → IsDv C (.lst l) v F := fun v F h => lstv_to (fun vs F q => ls_dvL q) v F h
theorem dv_t {C : Addr} {l : List Dv} : ∀ v F, IsDv C (.tup l) v F → IsTs (IsDv C) l v F := fun v F h => tupv_to (fun vs F q => dvL_ls q) v F h
theorem t_dv {C : Addr} {l : List Dv} : ∀ v F, IsTs (IsDv C) l v F → IsDv C (.tup l) v F := fun v F h => tupv_to (fun vs F q => ls_dvL q) v F h
theorem mo_dv {C : Addr} : ∀ d, Mo (IsDv C d)
  | .non => fun _ _ _ h _ => h
  | .bl b => fun _ _ _ h _ => h
  | .int i => fun _ _ _ h _ => h
  | .str s => fun _ _ _ h _ => h
  | .q r => mo_Q
  | .em => fun _ _ _ h e => let ⟨a, h1, h2⟩ := h; ⟨a, h1, e _ _ h2⟩
  | .lst l => mo_L
  | .tup l => mo_T
/-! ### one tree for a value -/
theorem qFsD_inj {q r : Rat} (h : qFs q = qFs r) : q = r := by
  unfold qFs at h
  simp only [List.cons.injEq, Prod.mk.injEq, V.int.injEq, true_and, and_true] at h
  exact Rat.ext h.1 (by omega)
mutual
theorem dv_uni {C : Addr} {F : Hp} {v : V} : ∀ (d e : Dv), IsDv C d v F → IsDv C e v F → d = e
  | .non, e, h, k => by
    have h : v = .non := h
    subst h
    cases e with
    | non => rfl
    | bl b => exact absurd (show V.non = V.bl b from k) (by intro z; cases z)
    | int b => exact absurd (show V.non = V.int b from k) (by intro z; cases z)
    | str b => exact absurd (show V.non = V.str b from k) (by intro z; cases z)
    | q b => obtain ⟨a, dx, z, _⟩ := (show IsQ C b .non F from k); cases z
    | em => obtain ⟨a, z, _⟩ := (show IsEm .non F from k); cases z
    | lst b => obtain ⟨a, vs, z, _⟩ := (show LstOf _ .non F from k); cases z
    | tup b => obtain ⟨a, vs, z, _⟩ := (show TupOf _ .non F from k); cases z
  | .bl c, e, h, k => by
    have h : v = .bl c := h
    subst h
    cases e with
    | non => exact absurd (show V.bl c = V.non from k) (by intro z; cases z)
    | bl b => cases (show V.bl c = V.bl b from k); rfl
    | int b => exact absurd (show V.bl c = V.int b from k) (by intro z; cases z)
    | str b => exact absurd (show V.bl c = V.str b from k) (by intro z; cases z)
    | q b => obtain ⟨a, dx, z, _⟩ := (show IsQ C b (.bl c) F from k); cases z
    | em => obtain ⟨a, z, _⟩ := (show IsEm (.bl c) F from k); cases z
    | lst b => obtain ⟨a, vs, z, _⟩ := (show LstOf _ (.bl c) F from k); cases z
    | tup b => obtain ⟨a, vs, z, _⟩ := (show TupOf _ (.bl c) F from k); cases z
  | .int c, e, h, k => by
    have h : v = .int c := h
    subst h
    cases e with
    | non => exact absurd (show V.int c = V.non from k) (by intro z; cases z)
    | bl b => exact absurd (show V.int c = V.bl b from k) (by intro z; cases z)
    | int b => cases (show V.int c = V.int b from k); rfl
    | str b => exact absurd (show V.int c = V.str b from k) (by intro z; cases z)
    | q b => obtain ⟨a, dx, z, _⟩ := (show IsQ C b (.int c) F from k); cases z
    | em => obtain ⟨a, z, _⟩ := (show IsEm (.int c) F from k); cases z
    | lst b => obtain ⟨a, vs, z, _⟩ := (show LstOf _ (.int c) F from k); cases z
    | tup b => obtain ⟨a, vs, z, _⟩ := (show TupOf _ (.int c) F from k); cases z
  | .str c, e, h, k => by
    have h : v = .str c := h
    subst h
    cases e with
    | non => exact absurd (show V.str c = V.non from k) (by intro z; cases z)
    | bl b => exact absurd (show V.str c = V.bl b from k) (by intro z; cases z)
    | int b => exact absurd (show V.str c = V.int b from k) (by intro z; cases z)
    | str b => cases (show V.str c = V.str b from k); rfl
    | q b => obtain ⟨a, dx, z, _⟩ := (show IsQ C b (.str c) F from k); cases z
    | em => obtain ⟨a, z, _⟩ := (show IsEm (.str c) F from k); cases z
    | lst b => obtain ⟨a, vs, z, _⟩ := (show LstOf _ (.str c) F from k); cases z
    | tup b => obtain ⟨a, vs, z, _⟩ := (show TupOf _ (.str c) F from k); cases z
  | .q c, e, h, k => by
    obtain ⟨a, dx, rfl, ha⟩ := (show IsQ C c v F from h)
    cases e with
    | non => exact absurd (show V.ref a = V.non from k) (by intro z; cases z)
    | bl b => exact absurd (show V.ref a = V.bl b from k) (by intro z; cases z)
    | int b => exact absurd (show V.ref a = V.int b from k) (by intro z; cases z)
    | str b => exact absurd (show V.ref a = V.str b from k) (by intro z; cases z)
    | q b =>
      obtain ⟨a', dx', z, hb⟩ := (show IsQ C b (.ref a) F from k)
      cases z
      rw [ha] at hb
      have z := HO.ins.inj (Option.some.inj hb)
      rw [qFsD_inj z.2.2]
    | em => obtain ⟨a', z, hb⟩ := (show IsEm (.ref a) F from k); cases z; rw [ha] at hb; cases hb
    | lst b => obtain ⟨a', vs, z, hb, _⟩ := (show LstOf _ (.ref a) F from k); cases z; rw [ha] at hb; cases hb
    | tup b => obtain ⟨a', vs, z, hb, _⟩ := (show TupOf _ (.ref a) F from k); cases z; rw [ha] at hb; cases hb
  | .em, e, h, k => by
    obtain ⟨a, rfl, ha⟩ := (show IsEm v F from h)
    cases e with
    | non => exact absurd (show V.ref a = V.non from k) (by intro z; cases z)
    | bl b => exact absurd (show V.ref a = V.bl b from k) (by intro z; cases z)
    | int b => exact absurd (show V.ref a = V.int b from k) (by intro z; cases z)
    | str b => exact absurd (show V.ref a = V.str b from k) (by intro z; cases z)
    | q b => obtain ⟨a', dx', z, hb⟩ := (show IsQ C b (.ref a) F from k); cases z; rw [ha] at hb; cases hb
    | em => rfl
    | lst b => obtain ⟨a', vs, z, hb, _⟩ := (show LstOf _ (.ref a) F from k); cases z; rw [ha] at hb; cases hb
    | tup b => obtain ⟨a', vs, z, hb, _⟩ := (show TupOf _ (.ref a) F from k); cases z; rw [ha] at hb; cases hb
  | .lst l, e, h, k => by
    obtain ⟨a, vs, rfl, ha, u⟩ := (show LstOf (DvL C l) v F from h)
    cases e with
    | non => exact absurd (show V.ref a = V.non from k) (by intro z; cases z)
    | bl b => exact absurd (show V.ref a = V.bl b from k) (by intro z; cases z)
    | int b => exact absurd (show V.ref a = V.int b from k) (by intro z; cases z)
    | str b => exact absurd (show V.ref a = V.str b from k) (by intro z; cases z)
    | q b => obtain ⟨a', dx', z, hb⟩ := (show IsQ C b (.ref a) F from k); cases z; rw [ha] at hb; cases hb
    | em => obtain ⟨a', z, hb⟩ := (show IsEm (.ref a) F from k); cases z; rw [ha] at hb; cases hb
    | lst m =>
      obtain ⟨a', vs', z, hb, u'⟩ := (show LstOf (DvL C m) (.ref a) F from k)
      cases z
      rw [ha] at hb
      cases hb
      rw [dvL_uni l m u.here u'.here]
    | tup b => obtain ⟨a', vs, z, hb, _⟩ := (show TupOf _ (.ref a) F from k); cases z; rw [ha] at hb; cases hb
  | .tup l, e, h, k => by
    obtain ⟨a, vs, rfl, ha, u⟩ := (show TupOf (DvL C l) v F from h)
    cases e with
    | non => exact absurd (show V.ref a = V.non from k) (by intro z; cases z)
    | bl b => exact absurd (show V.ref a = V.bl b from k) (by intro z; cases z)
    | int b => exact absurd (show V.ref a = V.int b from k) (by intro z; cases z)
    | str b => exact absurd (show V.ref a = V.str b from k) (by intro z; cases z)
    | q b => obtain ⟨a', dx', z, hb⟩ := (show IsQ C b (.ref a) F from k); cases z; rw [ha] at hb; cases hb
    | em => obtain ⟨a', z, hb⟩ := (show IsEm (.ref a) F from k); cases z; rw [ha] at hb; cases hb
    | lst b => obtain ⟨a', vs, z, hb, _⟩ := (show LstOf _ (.ref a) F from k); cases z; rw [ha] at hb; cases hb
    | tup m =>
      obtain ⟨a', vs', z, hb, u'⟩ := (show TupOf (DvL C m) (.ref a) F from k)
      cases z
      rw [ha] at hb
      cases hb
      rw [dvL_uni l m u.here u'.here]
theorem dvL_uni {C : Addr} {F : Hp} : ∀ {vs : List V} (l m : List Dv), DvL C l vs F → DvL C m vs F → l = m
  | vs, [], m, h, k => by
    have h : vs = [] := h
    subst h
    cases m with
    | nil => rfl
    | cons e m => obtain ⟨v, ws, z, _⟩ := (show ∃ v ws, ([] : List V) = v :: ws ∧ Up (IsDv C e) v F ∧ DvL C m ws F from k); cases z
  | vs, d :: l, m, h, k => by
    obtain ⟨v, ws, rfl, u, t⟩ := (show ∃ v ws, vs = v :: ws ∧ Up (IsDv C d) v F ∧ DvL C l ws F from h)
    cases m with
    | nil => exact absurd (show v :: ws = [] from k) (by simp)
    | cons e m =>
      obtain ⟨v', ws', z, u', t'⟩ := (show ∃ v' ws', v :: ws = v' :: ws' ∧ Up (IsDv C e) v' F ∧ DvL C m ws' F from k)
      cases z
      rw [dv_uni d e u.here u'.here, dvL_uni l m t t']
end
/-! ### how they're written -/
def emT : Str := dictText []
mutual
def dvT (qt : Rat → Str) : Dv → Str
  | .non => "None"
  | .bl b => bT b
  | .int i => toString i
  | .str s => reprText s
  | .q r => qt r
  | .em => emT
  | .lst l => listText (dvTs qt l)
  | .tup l => tupleText (dvTs qt l)
def dvTs (qt : Rat → Str) : List Dv → List Str
  | [] => []
  | d :: l => dvT qt d :: dvTs qt l
end
mutual
def dvD : Dv → Nat
  | .lst l => dvDs l + 1
  | .tup l => dvDs l + 1
  | .em => 1
  | _ => 0
def dvDs : List Dv → Nat
  | [] => 0
  | d :: l => max (dvD d) (dvDs l)
end
/-! what may be written: leaves of the kind pq; no more than 7 in a list -/
mutual
def DvOk (pq : Rat → Prop) : Dv → Prop
  | .non => True
  | .bl _ => True
  | .int i => i.natAbs.log2 < 1920
  | .str s => (reprText s).length ≤ 20000
  | .q r => pq r
  | .em => True
  | .lst l => l.length ≤ 7 ∧ DvOks pq l
  | .tup l => l.length ≤ 7 ∧ DvOks pq l
def DvOks (pq : Rat → Prop) : List Dv → Prop
  | [] => True
  | d :: l => DvOk pq d ∧ DvOks pq l
end
theorem dvOks_mem {pq : Rat → Prop} : ∀ {l : List Dv}, DvOks pq l ↔ ∀ d ∈ l, DvOk pq d
  | [] => ⟨fun _ d h => by simp at h, fun _ => trivial⟩
  | d :: l => ⟨fun h e he => by
      rcases List.mem_cons.mp he with rfl | he
      · exact h.1
      · exact dvOks_mem.mp h.2 e he, fun h => ⟨h d (by simp), dvOks_mem.mpr fun e he => h e (by simp [he])⟩⟩
theorem dvDs_mem : ∀ {l : List Dv} {d : Dv}, d ∈ l → dvD d ≤ dvDs l
  | d :: l, e, h => by
    show dvD e ≤ max (dvD d) (dvDs l)
    rcases List.mem_cons.mp h with rfl | h
    · omega
    · have := dvDs_mem h
      omega
theorem dvTs_map {qt : Rat → Str} : ∀ l : List Dv, dvTs qt l = l.map (dvT qt)
  | [] => rfl
  | d :: l => by rw [dvTs, dvTs_map l]; rfl
/-- lists, tuples, dicts of no more than so many levels stand there -/
def asD (C : Addr) (n : Nat) (F : Hp) (b : Addr) : Prop := ∃ d, dvD d ≤ n ∧ IsDv C d (.ref b) F ∧ dvD d ≠ 0
section
variable {X : Cx} {C : Addr} {pq : Rat → Prop} {qt : Rat → Str} {k : Nat}
theorem rp_dk {pins : List (Addr × Obj)} {σ : L2.St} {H : Hp} {s : Shared} (I : Inv X pins σ H s) {a : Addr} (e : H a = some (.dK [])) : ∃ (o : Obj) (es : Array DictEntry) (n : Nat), s.heap.get? a = some o ∧ o.cls = .type "dict" ∧ o.data = .dict es n ∧ (a == sysModules) = false ∧ es.toList = [] := by
  obtain ⟨_, hs, vs, kv, D⟩ := I.hok a _ e
  cases kv
  obtain ⟨o, es, n, h1, h2, h3, h4⟩ := D
  exact ⟨o, es, n, h1, h2.1, h3, hs, by cases hh : es.toList with | nil => rfl | cons x l => rw [hh] at h4; obtain ⟨_, p, _⟩ := h4; cases p⟩
theorem RpJ.em {as : Addr → Prop} {dd du : Nat} {F : Hp} {a : Addr} (ha : F a = some (.dK [])) (h1 : as a) (hu : 1 ≤ du) : RpJ X as dd du F (.ref a) emT := by
  intro base hb A g E pins σ H s Q c cl I e kq
  obtain ⟨o, es, n, o1, o2, o3, o4, o5⟩ := rp_dk I (e _ _ ha)
  have z := ReprK.dict (prog := X.prog) (w := X.w) (as := []) (h₀ := s.heap) (d := 0) (ps := []) o1 o2 o3 o4 (by simp) (by rw [o5]; exact .nil)
  exact z base hb A g E s Q c.gd (fun b hb => by simp at hb; rw [hb]; exact cl a h1) (by have := c.un; omega) (fun _ _ q => q) fun h' tk hk => kq _ H (I.kept (t' := tk) hk) (Ex.refl H)
theorem asD_up {n m : Nat} {F : Hp} {b : Addr} (h : asD C n F b) (hn : n ≤ m) : asD C m F b := let ⟨d, h1, h2⟩ := h; ⟨d, by omega, h2⟩
theorem wr_b {as : Hp → Addr → Prop} {dd du : Nat} {b : Bool} : Wr X as dd du (IsB b) (bT b) := fun v F u x r => by
  have e : v = .bl b := u.here
  subst e
  cases (show x = Value.bool b from r)
  have z := ReprIs.bool (prog := X.prog) (w := X.w) b
  exact .of_is z
mutual
theorem wr_dv (T : RepF X.prog X.w X.K X.mg X.base C k pq qt) : ∀ d, DvOk pq d → Wr X (asD C (dvD d)) (3 * k + 6 + dvD d) (16 * k + 202 + dvD d) (IsDv C d) (dvT qt d)
  | .non, _ => fun v F u x r => by
    have e : v = .non := u.here
    subst e
    cases (show x = Value.none from r)
    exact .of_is ReprIs.none
  | .bl b, _ => wr_b
  | .int i, h => (wr_I h).more (fun _ _ z => z.elim) (Nat.le_refl _) (Nat.le_refl _)
  | .str s, h => fun v F u x r => by
    have e : v = .str s := u.here
    subst e
    obtain ⟨tk, rfl⟩ : ∃ tk, x = .str s tk := r
    exact .of_is (ReprIs.str s tk (by have : (20000 : Nat) ≤ sizeLine := by decide
                                      have : (reprText s).length ≤ 20000 := h
                                      omega))
  | .q r, h => (wr_Q T h).more (fun _ _ z => z.elim) (Nat.le_refl _) (Nat.le_refl _)
  | .em, _ => fun v F u x r => by
    obtain ⟨a, rfl, ha⟩ := (show IsEm v F from u.here)
    obtain rfl : x = .ref a := r
    exact .em ha ⟨.em, Nat.le_refl _, ⟨a, rfl, ha⟩, by decide⟩ (by omega)
  | .lst l, h => fun v F u x r => by
    obtain ⟨a, vs, rfl, ha, uu⟩ := (show LstOf (DvL C l) v F from u.here)
    obtain rfl : x = .ref a := r
    have hself : IsDv C (.lst l) (.ref a) F := ⟨a, vs, rfl, ha, uu⟩
    refine (RpJ.list ha (as := asD C (dvDs l) F) (fun z => ?_) (wr_dvL T l h.2 (Nat.le_refl _) uu.here)).more (fun b hb => hb.elim (fun e => ⟨.lst l, Nat.le_refl _, by rw [e]; exact hself, by simp [dvD]⟩) fun z => asD_up z (Nat.le_succ _)) (Nat.le_refl _) (Nat.le_refl _) (Ex.refl F)
    obtain ⟨d, h1, h2, _⟩ := z
    rw [dv_uni d (.lst l) h2 hself] at h1
    exact absurd h1 (by simp [dvD])
  | .tup l, h => fun v F u x r => by
    obtain ⟨a, vs, rfl, ha, uu⟩ := (show TupOf (DvL C l) v F from u.here)
    obtain rfl : x = .ref a := r
    have hself : IsDv C (.tup l) (.ref a) F := ⟨a, vs, rfl, ha, uu⟩
    refine (RpJ.tuple ha (as := asD C (dvDs l) F) (fun z => ?_) (wr_dvL T l h.2 (Nat.le_refl _) uu.here)).more (fun b hb => hb.elim (fun e => ⟨.tup l, Nat.le_refl _, by rw [e]; exact hself, by simp [dvD]⟩) fun z => asD_up z (Nat.le_succ _)) (Nat.le_refl _) (Nat.le_refl _) (Ex.refl F)
    obtain ⟨d, h1, h2, _⟩ := z
    rw [dv_uni d (.tup l) h2 hself] at h1
    exact absurd h1 (by simp [dvD])
theorem wr_dvL (T : RepF X.prog X.w X.K X.mg X.base C k pq qt) : ∀ l, DvOks pq l → ∀ {n : Nat}, dvDs l ≤ n → ∀ {F : Hp} {vs : List V}, DvL C l vs F → RpAll X (asD C n F) (3 * k + 6 + n) (16 * k + 202 + n) F vs (dvTs qt l)
  | [], _, n, _, F, vs, h => by
    have h : vs = [] := h
    subst h
    exact .nil
  | d :: l, ok, n, hn, F, vs, h => by
    obtain ⟨v, ws, rfl, u, t⟩ := (show ∃ v ws, vs = v :: ws ∧ Up (IsDv C d) v F ∧ DvL C l ws F from h)
    have hn' : max (dvD d) (dvDs l) ≤ n := hn
    refine .cons (fun x r => (wr_dv T d ok.1 v F u x r).more (fun b z => asD_up z (by omega)) (by omega) (by omega) (Ex.refl F)) (wr_dvL T l ok.2 (by omega) t)
end
/-! ### repr(x) of any such value -/
def rReprD (C : Addr) (qt : Rat → Str) (P : Dv → Prop) : List V → Hp → VK → Prop := fun xs H Q => ∃ (F : Hp) (d : Dv) (v : V), xs = [v] ∧ P d ∧ Ex F H ∧ IsDv C d v F ∧ ∀ H', Ex H H' → Q (.str (dvT qt d)) H'
/-- all but own objects at the top -/
def DvTop (pq : Rat → Prop) (qt : Rat → Str) (n : Nat) (d : Dv) : Prop := DvOk pq d ∧ dvD d ≤ n ∧ (dvT qt d).length ≤ sizeLine ∧ ∀ r, d ≠ .q r
theorem call_reprD (T : RepF X.prog X.w X.K X.mg X.base C k pq qt) {n j : Nat} (hr : Room j X.A) (hj : k + n + 3 ≤ j) (hG : X.A.guards = some []) : CallR X (.builtin "repr") (rReprD C qt (DvTop pq qt n)) := by
  intro pins s σ H xs us Q I r h
  obtain ⟨F0, d, v, rfl, ⟨ok, hn, hsz, hq⟩, e, hv, kq⟩ := h
  cases r with
  | cons r0 rt =>
    cases rt
    have dp : X.A.depth + (3 * k + 6 + n + 4) < recursionLimit := by have := hr.dp; omega
    have un : X.A.units + (16 * k + 202 + n + 8) < cLine := by have := hr.un; omega
    have fin : ∀ s' H' u, Inv X pins σ H' s' → Ex H H' → EP X pins σ Q (.str (dvT qt d) u) s' := fun s' H' u I' e' => ⟨.str (dvT qt d), H', I', ⟨u, rfl⟩, kq H' e'⟩
    cases d with
    | non =>
      have e2 : v = .non := hv
      subst e2
      cases (show _ = Value.none from r0)
      exact PySem.P.repr_of_none (fin _ H _ (I.tok _) (Ex.refl H))
    | bl b =>
      have e2 : v = .bl b := hv
      subst e2
      cases (show _ = Value.bool b from r0)
      exact PySem.P.repr_of_bool (fin _ H _ (I.tok _) (Ex.refl H))
    | int i =>
      have e2 : v = .int i := hv
      subst e2
      obtain ⟨tk, rfl⟩ : ∃ tk, _ = Value.int i tk := r0
      exact PySem.P.repr_of_int ok (fin _ H _ (I.tok _) (Ex.refl H))
    | str x =>
      have e2 : v = .str x := hv
      subst e2
      obtain ⟨tk, rfl⟩ : ∃ tk, _ = Value.str x tk := r0
      exact PySem.P.repr_of_str (fin _ H _ (I.tok _) (Ex.refl H)) hsz
    | q r => exact absurd rfl (hq r)
    | em =>
      obtain ⟨a, rfl, ha⟩ := (show IsEm v F0 from hv)
      cases (show _ = Value.ref a from r0)
      obtain ⟨o, es, n, o1, o2, o3, o4, o5⟩ := rp_dk I (e _ _ ha)
      have hTy : s.TypeIs (.ref a) "dict" := ⟨o, o1, o2⟩
      refine Calls.call_function_entry F.kind_repr F.plain_repr F.entry_repr (F.args_repr1 _) ?_
      unfold Builtin.«repr»
      refine wpAny_bind (m := oneArg "repr" _) (wpAny_pure ?_)
      refine wpAny_bind (wpAny_cRoomFor (by show X.A.units + 1 < _; omega) ?_)
      refine wpAny_bind (wpAny_specialOf (name := Str.ofString "__repr__") hTy F.slot_dict_repr.lookup ?_)
      refine wpAny_bind (m := callSpecialIfBound? (.ref a) (Str.ofString "__repr__")) (wpAny_callSpecialIfBound?_slotG (name := Str.ofString "__repr__") hTy F.slot_dict_repr ?_)
      refine call_dict_reprK (as := []) (h₀ := s.heap) (d := 0) (ps := []) (g := []) o1 o2 o3 o4 (by simp) (by rw [o5]; exact .nil) hG (fun b _ => Clear.nil b) (by show X.A.units + 1 + 1 < _; omega) (fun _ _ q => q) (fun h' u tk hk => ?_) (by decide)
      exact wpAny_bind (wpAny_isInstance (T := "str") (b := true) rfl isSubtype_str_str (wpAny_pure ⟨_, rfl, fin _ H _ (I.kept (t' := tk) hk) (Ex.refl H)⟩))
    | lst l =>
      obtain ⟨a, vs, rfl, ha, uu⟩ := (show LstOf (DvL C l) v F0 from hv)
      cases (show _ = Value.ref a from r0)
      have hself : IsDv C (.lst l) (.ref a) F0 := ⟨a, vs, rfl, ha, uu⟩
      have hn : dvDs l + 1 ≤ n := hn
      refine reprListJ ha (as := asD C (dvDs l) F0) (fun z => ?_) (wr_dvL T l ok.2 (Nat.le_refl _) uu.here) ⟨hr.hd, I.ok.frames, hG, by omega, by omega⟩ I e hsz fun s' H' u I' e' => fin s' H' u I' e'
      obtain ⟨d, h1, h2, _⟩ := z
      rw [dv_uni d (.lst l) h2 hself] at h1
      exact absurd h1 (by simp [dvD])
    | tup l =>
      obtain ⟨a, vs, rfl, ha, uu⟩ := (show TupOf (DvL C l) v F0 from hv)
      cases (show _ = Value.ref a from r0)
      have hself : IsDv C (.tup l) (.ref a) F0 := ⟨a, vs, rfl, ha, uu⟩
      have hn : dvDs l + 1 ≤ n := hn
      refine reprTupJ ha (as := asD C (dvDs l) F0) (fun z => ?_) (wr_dvL T l ok.2 (Nat.le_refl _) uu.here) ⟨hr.hd, I.ok.frames, hG, by omega, by omega⟩ I e hsz fun s' H' u I' e' => fin s' H' u I' e'
      obtain ⟨d, h1, h2, _⟩ := z
      rw [dv_uni d (.tup l) h2 hself] at h1
      exact absurd h1 (by simp [dvD])
end
theorem rc_reprD {pp : Option Addr} {C : Addr} {qt : Rat → Str} {P : Dv → Prop} {d : Dv} (hd : P d) : RC pp (rReprD C qt P) [IsDv C d] (IsS (dvT qt d)) := fun vs F H Q ok a k => by
  cases a with
  | cons u a =>
    cases a
    refine ⟨F, d, _, rfl, hd, ok.s, u.here, fun H' e => k _ F H' ⟨Ex.refl F, ok.s.trans e, fun b o hb _ => e _ _ hb, fun _ _ h => .inl h, fun b hb => ?_⟩ fun _ _ => rfl⟩
    obtain ⟨h1, x, y, h2, h3⟩ := ok.p b hb
    exact ⟨h1, x, y, e _ _ h2, h3⟩
end Gw
set_option maxHeartbeats 1000000
/-! zip of a list and a tuple, in any sequence. -/
namespace PySem
open Sem (wp)
inductive Kd where
  | l | t
def Kd.obj (k : Kd) (h : Heap) (a : Addr) (xs : Array Value) : Prop := match k with
  | .l => h.IsList a xs
  | .t => h.IsTuple a xs
def Kd.itr (k : Kd) (h : Heap) (i a : Addr) (n : Nat) : Prop := match k with
  | .l => h.IsListIter i a n
  | .t => h.IsTupleIter i a n
def Kd.nm (k : Kd) : String := match k with
  | .l => "list_iterator"
  | .t => "tuple_iterator"
abbrev gzIt (k : Kd) (a : Addr) : Obj := { cls := .type k.nm, data := .fields #[.ref a, .int 0 0] }
abbrev gzA (k : Kd) (h : Heap) (a : Addr) : Heap := h.push (gzIt k a)
abbrev gzB (k m : Kd) (h : Heap) (a b : Addr) : Heap := (gzA k h a).push (gzIt m b)
abbrev gzC (k m : Kd) (h : Heap) (a b : Addr) : Heap := (gzB k m h a b).push { cls := .type "tuple", data := .seq #[.ref h.objs.size, .ref (gzA k h a).objs.size] }
abbrev gzD (k m : Kd) (h : Heap) (a b : Addr) : Heap := (gzC k m h a b).push { cls := .type "tuple", data := .seq #[.none, .none] }
abbrev gzE (k m : Kd) (h : Heap) (a b : Addr) : Heap := (gzD k m h a b).push { cls := .type "zip", data := .fields #[.none, .bool false, .bool false, .ref (gzB k m h a b).objs.size, .ref (gzC k m h a b).objs.size] }
theorem gz_new_lt (a b : Addr) (xs ys : Array Value) : Meets (Builtin.«zip.__new__» ⟨[.type "zip", .ref a, .ref b], []⟩) (fun _ R s => s.heap.IsList a xs ∧ s.heap.IsTuple b ys ∧ R (.ok (.ret (.ref (gzD .l .t s.heap a b).objs.size))) { s with heap := gzE .l .t s.heap a b }) :=
  .of_wp fun prog w A R s h => by
    obtain ⟨hp, gn, dr, tk, os⟩ := s
    obtain ⟨q1, q2, h⟩ := h
    have hsub := sub_zip
    have e1 : Heap.IsList (Shared.heap ⟨hp, gn, dr, tk, os⟩) a xs := q1
    have e2 : Heap.IsTuple (Shared.heap ⟨hp.push { cls := .type "list_iterator", data := .fields #[.ref a, .int 0 0] }, gn, dr, tk, os⟩) b ys := Heap.IsTuple.push q2 _
    wp_walk using wpAny_pyIter_list e1, wpAny_pyIter_tuple e2
    exact ⟨_, rfl, h⟩
theorem gz_new_tl (a b : Addr) (xs ys : Array Value) : Meets (Builtin.«zip.__new__» ⟨[.type "zip", .ref a, .ref b], []⟩) (fun _ R s => s.heap.IsTuple a xs ∧ s.heap.IsList b ys ∧ R (.ok (.ret (.ref (gzD .t .l s.heap a b).objs.size))) { s with heap := gzE .t .l s.heap a b }) :=
  .of_wp fun prog w A R s h => by
    obtain ⟨hp, gn, dr, tk, os⟩ := s
    obtain ⟨q1, q2, h⟩ := h
    have hsub := sub_zip
    have e1 : Heap.IsTuple (Shared.heap ⟨hp, gn, dr, tk, os⟩) a xs := q1
    have e2 : Heap.IsList (Shared.heap ⟨hp.push { cls := .type "tuple_iterator", data := .fields #[.ref a, .int 0 0] }, gn, dr, tk, os⟩) b ys := Heap.IsList.push q2 _
    wp_walk using wpAny_pyIter_tuple e1, wpAny_pyIter_list e2
    exact ⟨_, rfl, h⟩
section
variable {prog : Program} {w : World} {A : Around} {E : Value → Shared → Prop} {s : Shared}
def GzAt (k m : Kd) (h h' : Heap) (a b : Addr) : Prop := IsZip h' (h.objs.size + 4) (h.objs.size + 2) (h.objs.size + 3) .none ∧ IsPair h' (h.objs.size + 2) (.ref h.objs.size) (.ref (h.objs.size + 1)) ∧ IsPair h' (h.objs.size + 3) .none .none ∧
  k.itr h' h.objs.size a 0 ∧ m.itr h' (h.objs.size + 1) b 0 ∧ ∀ c o, h.get? c = some o → h'.get? c = some o
theorem gz_at (k m : Kd) (h : Heap) (a b : Addr) : (gzD k m h a b).objs.size = h.objs.size + 4 ∧ GzAt k m h (gzE k m h a b) a b := by
  have n1 : (gzA k h a).objs.size = h.objs.size + 1 := Heap.size_push ..
  have n2 : (gzB k m h a b).objs.size = h.objs.size + 2 := (Heap.size_push ..).trans (by rw [n1])
  have n3 : (gzC k m h a b).objs.size = h.objs.size + 3 := (Heap.size_push ..).trans (by rw [n2])
  have n4 : (gzD k m h a b).objs.size = h.objs.size + 4 := (Heap.size_push ..).trans (by rw [n3])
  have up : ∀ {h : Heap} {c : Addr} {o u : Obj}, h.get? c = some o → (h.push u).get? c = some o := fun e => Heap.get?_push_of_some _ e
  have k5 : (gzE k m h a b).get? (gzD k m h a b).objs.size = some _ := Heap.get?_push_size _ rfl
  have k4 : (gzE k m h a b).get? (gzC k m h a b).objs.size = some _ := up (Heap.get?_push_size _ rfl)
  have k3 : (gzE k m h a b).get? (gzB k m h a b).objs.size = some _ := up (up (Heap.get?_push_size _ rfl))
  have k2 : (gzE k m h a b).get? (gzA k h a).objs.size = some _ := up (up (up (Heap.get?_push_size _ (by cases m <;> rfl))))
  have k1 : (gzE k m h a b).get? h.objs.size = some _ := up (up (up (up (Heap.get?_push_size _ (by cases k <;> rfl)))))
  rw [n2, n3, n4] at k5
  rw [n3] at k4
  rw [n1, n2] at k3
  rw [n1] at k2
  refine ⟨n4, k5, k3, k4, ?_, ?_, fun c o x => up (up (up (up (up x))))⟩
  · cases k <;> exact ⟨_, k1, rfl, rfl⟩
  · cases m <;> exact ⟨_, k2, rfl, rfl⟩
theorem gz_call (k m : Kd) {a b : Addr} {xs ys : Array Value} {Q : Value → Shared → Prop} (h1 : k.obj s.heap a xs) (h2 : m.obj s.heap b ys) (h : ∀ h', GzAt k m s.heap h' a b → Q (.ref (s.heap.objs.size + 4)) { s with heap := h' }) : wpAny (model prog w) A (call (.type "zip") [.ref a, .ref b]) Q E s := by
  cases k with
  | l => cases m with
    | l => exact call_zip_2 h1 h2 fun h' u1 u2 u3 u4 u5 _ u6 => h h' ⟨u1, u2, u3, u4, u5, u6⟩
    | t =>
      refine callType_new F.called_zip (by decide) (F.typeCall_zip_2 _ _) (F.newCall_zip_2 _ _) (fun obj => F.args_object_init_3 obj _ _) F.entry_zip_new (gz_new_lt a b xs ys) ⟨h1, h2, ?_⟩
      obtain ⟨e, z⟩ := gz_at .l .t s.heap a b
      show _ ∧ _
      rw [e]
      exact ⟨⟨_, z.1, rfl⟩, h _ z⟩
  | t => cases m with
    | l =>
      refine callType_new F.called_zip (by decide) (F.typeCall_zip_2 _ _) (F.newCall_zip_2 _ _) (fun obj => F.args_object_init_3 obj _ _) F.entry_zip_new (gz_new_tl a b xs ys) ⟨h1, h2, ?_⟩
      obtain ⟨e, z⟩ := gz_at .t .l s.heap a b
      show _ ∧ _
      rw [e]
      exact ⟨⟨_, z.1, rfl⟩, h _ z⟩
    | t => exact RZ.call_zipT h1 h2 fun h' u1 u2 u3 u4 u5 _ u6 => h h' ⟨u1, u2, u3, u4, u5, u6⟩
theorem Kd.draws (k : Kd) (hh : A.handled = none) (it a : Addr) (hne : a ≠ it) (xs : Array Value) : Draws prog w A it [it, a] xs.size (fun i v => xs[i]? = some v) (fun i h => k.itr h it a i ∧ k.obj h a xs) := by
  cases k with
  | l => exact Draws.list hh it a hne xs
  | t => exact {
      live := fun _ _ st => let ⟨o, ho, _⟩ := (show Heap.IsTupleIter _ it a _ from st.1); ⟨o, ho⟩
      frame := fun _ h h' st q => ⟨(show Heap.IsTupleIter h it a _ from st.1).at fun o e => q it (by simp) o e, (show Heap.IsTuple h a xs from st.2).at fun o e => q a (by simp) o e⟩
      item := fun i s Q E hi st hQ => RZ.nextOf_tuple_item st.1 st.2 (x := xs[i]) (by simp [hi]) fun h' it' same => hQ _ h' s.toks (by simp [hi]) ⟨it', (show Heap.IsTuple _ a xs from st.2).extBut same.extBut hne⟩ same
      done := fun s Q E st hE => RZ.nextOf_tuple_end hh st.1 st.2 (by simp) hE }
end
end PySem
namespace Gw
open PySem PySem.Spec PyProof.Rows L2
def kSq (k : Kd) (K : PySem.W.Frag) (H : Hp) (a : Addr) (xs : List V) : Prop := match k with
  | .l => SqL K H a xs
  | .t => SqT K H a xs
theorem kSq_obj {X : Cx} {pins : List (Addr × Obj)} {σ : L2.St} {H : Hp} {s : Shared} (I : Inv X pins σ H s) {k : Kd} {a : Addr} {xs : List V} (h : kSq k X.K H a xs) : ∃ its : List Value, Vals xs its ∧ k.obj s.heap a its.toArray ∧ a < s.heap.objs.size := by
  cases k with
  | l =>
    obtain ⟨its, r, p, _⟩ := I.list h
    exact ⟨its, r, p.isList, p.lt⟩
  | t =>
    obtain ⟨its, r, p, _⟩ := I.tuple h
    obtain ⟨o, e, _⟩ := id p
    exact ⟨its, r, p, Heap.lt_size e⟩
/-- two that stand still, of the kinds k and m -/
def Itg (k m : Kd) (K : PySem.W.Frag) (a b : Addr) (xs ys : List V) : It :=
  ⟨fun i H => kSq k K H a xs ∧ kSq m K H b ys ∧ i < xs.length ∧ i < ys.length,
    fun i H v H' => ∃ T x y, v = .ref T ∧ H T = none ∧ H' = upd H T (.tup [x, y]) ∧ xs[i]? = some x ∧ ys[i]? = some y,
    fun i H => kSq k K H a xs ∧ kSq m K H b ys ∧ (xs.length ≤ i ∨ ys.length ≤ i)⟩
theorem kSq_its {X : Cx} {pins : List (Addr × Obj)} {σ : L2.St} {H : Hp} {s : Shared} (I : Inv X pins σ H s) {k : Kd} {a : Addr} {xs : List V} (h : kSq k X.K H a xs) {its : Array Value} (ho : k.obj s.heap a its) : Vals xs its.toList := by
  obtain ⟨l, r, p, _⟩ := kSq_obj I h
  have e : its = l.toArray := by
    cases k with
    | l =>
      obtain ⟨o, h1, _, n, h2⟩ := (show Heap.IsList s.heap a its from ho)
      obtain ⟨o', k1, _, n', k2⟩ := (show Heap.IsList s.heap a l.toArray from p)
      rw [h1] at k1
      cases k1
      first | (rw [h2] at k2; cases k2; rfl) | (have := h2.2.symm.trans k2.2; cases this; rfl) | (obtain ⟨n1, e1⟩ := h2; obtain ⟨n2, e2⟩ := k2; rw [e1] at e2; cases e2; rfl)
    | t =>
      obtain ⟨o, h1, _, n, h2⟩ := (show Heap.IsTuple s.heap a its from ho)
      obtain ⟨o', k1, _, n', k2⟩ := (show Heap.IsTuple s.heap a l.toArray from p)
      rw [h1] at k1
      cases k1
      rw [h2] at k2
      cases k2
      rfl
  rw [e]
  exact r
theorem turn_g {P : Program} {w : World} {K : PySem.W.Frag} {elts : List Expr} {kk : Nat} {tpos : Pos} {k m : Kd} {a b z TI TO i1 i2 : Addr} {xs ys : List V} {us ws : Array Value} (D : ZipApart z TI TO i1 i2 a b) (l1 : us.size = xs.length) (l2 : ws.size = ys.length) :
    Turn P w K (.Tuple elts kk tpos) (Itg k m K a b xs ys) [z, TI, TO, i1, i2] z (fun i h => IsZip h z TI TO .none ∧ IsPair h TI (.ref i1) (.ref i2) ∧ (∃ x y, IsPair h TO x y) ∧ k.itr h i1 a i ∧ m.itr h i2 b i ∧ i ≤ xs.length ∧ i ≤ ys.length) where
  mem := by simp
  obj := fun i h st c hc => by
    obtain ⟨hz, hTI, ⟨x, y, hTO⟩, h1, h2, _⟩ := st
    have fld : ∀ {q : Kd} {j c : Addr}, q.itr h j c i → ∃ o, h.get? j = some o ∧ ∀ v, o.data ≠ .cell v := fun {q j c} hq => by
      cases q with
      | l => obtain ⟨o, e, _, d⟩ := (show Heap.IsListIter h j c i from hq); exact ⟨o, e, fun v z => by rw [d] at z; cases z⟩
      | t => obtain ⟨o, e, _, d⟩ := (show Heap.IsTupleIter h j c i from hq); exact ⟨o, e, fun v z => by rw [d] at z; cases z⟩
    simp only [List.mem_cons, List.not_mem_nil, or_false] at hc
    rcases hc with rfl | rfl | rfl | rfl | rfl
    · exact ⟨_, hz, fun v q => nomatch q⟩
    · exact ⟨_, hTI, fun v q => nomatch q⟩
    · exact ⟨_, hTO, fun v q => nomatch q⟩
    · exact fld h1
    · exact fld h2
  keep := fun i h h' st kp => by
    obtain ⟨hz, hTI, ⟨x, y, hTO⟩, h1, h2, hl⟩ := st
    have mv : ∀ {q : Kd} {j c : Addr}, j ∈ [z, TI, TO, i1, i2] → q.itr h j c i → q.itr h' j c i := fun {q j c} hj hq => by
      cases q with
      | l => exact (show Heap.IsListIter h j c i from hq).at fun o e => kp j hj o e
      | t => exact (show Heap.IsTupleIter h j c i from hq).at fun o e => kp j hj o e
    exact ⟨kp z (by simp) _ hz, kp TI (by simp) _ hTI, ⟨x, y, kp TO (by simp) _ hTO⟩, mv (by simp) h1, mv (by simp) h2, hl⟩
  item := by
    intro X hP hw hK hc i pins s σ H E I hf st hg
    subst hP hw hK
    obtain ⟨hz, hTI, ⟨x0, y0, hTO⟩, h1, h2, hl1, hl2⟩ := st
    obtain ⟨hqx, hqy, lx, ly⟩ := hg
    obtain ⟨its, rv, p, _⟩ := kSq_obj I hqx
    obtain ⟨its2, rv2, p2, _⟩ := kSq_obj I hqy
    obtain ⟨u, hu, ru⟩ := rv.get (List.getElem?_eq_getElem lx)
    obtain ⟨u2, hu2, ru2⟩ := rv2.get (List.getElem?_eq_getElem ly)
    have hzl : z < s.heap.objs.size := Heap.lt_size hz
    have hh : X.A.in1.handled = none := I.ok.hd hc
    have S2 : ZipSep2 z TI TO i1 i2 [i1, a] [i2, b] := by
      refine ⟨D.TIz, D.TOz, D.TITO, D.TIi1, by simp, ?_, ?_, D.TIi2, by simp, ?_, ?_, ?_, ?_⟩
      · simp only [List.mem_cons, List.not_mem_nil, or_false, not_or]; exact ⟨D.i1z.symm, D.l1z.symm⟩
      · simp only [List.mem_cons, List.not_mem_nil, or_false, not_or]; exact ⟨D.TOi1, D.l1TO.symm⟩
      · simp only [List.mem_cons, List.not_mem_nil, or_false, not_or]; exact ⟨D.i2z.symm, D.l2z.symm⟩
      · simp only [List.mem_cons, List.not_mem_nil, or_false, not_or]; exact ⟨D.TOi2, D.l2TO.symm⟩
      · simp only [List.mem_cons, List.not_mem_nil, or_false, not_or]; exact ⟨D.i12, D.l2i1.symm⟩
      · simp only [List.mem_cons, List.not_mem_nil, or_false, not_or]; exact ⟨D.i12.symm, D.l1i2.symm⟩
    have s1 : its.toArray.size = xs.length := by rw [List.size_toArray]; exact rv.length.symm
    have s2 : its2.toArray.size = ys.length := by rw [List.size_toArray]; exact rv2.length.symm
    refine wpAny_pyNext_zipD2_item S2 (k.draws hh i1 a D.l1i1 its.toArray) (m.draws hh i2 b D.l2i2 its2.toArray) hz hTI hTO ⟨h1, p⟩ ⟨h2, p2⟩ (by omega) (by omega) fun y1 y2 h' tk e1 e2 z' TO' st1 st2 hT hsz hk => ?_
    have e1 : u = y1 := by have e1 : its.toArray[i]? = some y1 := e1
                           rw [List.getElem?_toArray, hu] at e1
                           exact Option.some.inj e1
    have e2 : u2 = y2 := by have e2 : its2.toArray[i]? = some y2 := e2
                            rw [List.getElem?_toArray, hu2] at e2
                            exact Option.some.inj e2
    subst e1 e2
    refine ⟨_, rfl, wpAny_letOwnedTupleGo_zip (s := { s with heap := h', toks := tk }) z' fun h'' z'' sb => ?_⟩
    have hT2 : h''.get? s.heap.objs.size = some { cls := .type "tuple", data := .seq #[u, u2] } := (sb.2 _ (Nat.ne_of_gt hzl)).trans hT
    have new : ObjOk X.prog X.w (upd H s.heap.objs.size (.tup [xs[i], ys[i]])) h'' s.heap.objs.size (.tup [xs[i], ys[i]]) := ⟨by show 2 ≤ sizeLine; decide, [u, u2], .cons ru (.cons ru2 .nil), ⟨_, hT2, rfl, _, rfl⟩⟩
    have I1 : Inv X pins σ (upd H s.heap.objs.size (.tup [xs[i], ys[i]])) { s with heap := h'', toks := tk } :=
      I.turnedNew (t' := tk) (ch := [z, TI, TO, i1, i2]) (fun c o hb q => (sb.2 c (fun q' => hb (by simp [q']))).trans (hk c o (fun q' => hb (by simp [q'])) (fun q' => hb (by simp [q'])) (fun q' => hb (by simp [q'])) (fun q' => hb (by simp [q'])) q)) hf (Nat.le_refl _) new
    have mv : ∀ {q : Kd} {j c : Addr} {n : Nat}, j ≠ z → q.itr h' j c n → q.itr h'' j c n := fun {q j c n} hj hq => by
      cases q with
      | l => exact (show Heap.IsListIter h' j c n from hq).at fun o e => (sb.2 _ hj).trans e
      | t => exact (show Heap.IsTupleIter h' j c n from hq).at fun o e => (sb.2 _ hj).trans e
    refine ⟨.ref s.heap.objs.size, _, I1, rfl, ⟨_, xs[i], ys[i], rfl, I.hok.fresh (Nat.le_refl _), rfl, List.getElem?_eq_getElem lx, List.getElem?_eq_getElem ly⟩, ⟨z'', ?_, ⟨u, u2, ?_⟩, mv D.i1z st1.1, mv D.i2z st2.1, lx, ly⟩, fun c hcm => ?_⟩
    · exact (sb.2 _ D.TIz).trans (hk _ _ D.TIz D.TITO D.TIi1 D.TIi2 hTI)
    · exact (sb.2 _ D.TOz).trans TO'
    · have hlt : c < s.heap.objs.size := by
        have lt : ∀ {q : Kd} {j c : Addr}, q.itr s.heap j c i → j < s.heap.objs.size := fun {q j c} hq => by
          cases q with
          | l => obtain ⟨o, e, _⟩ := (show Heap.IsListIter s.heap j c i from hq); exact Heap.lt_size e
          | t => obtain ⟨o, e, _⟩ := (show Heap.IsTupleIter s.heap j c i from hq); exact Heap.lt_size e
        have hcm' := hcm
        simp only [List.mem_cons, List.not_mem_nil, or_false] at hcm'
        rcases hcm' with rfl | rfl | rfl | rfl | rfl
        · exact hzl
        · exact Heap.lt_size hTI
        · exact Heap.lt_size hTO
        · exact lt h1
        · exact lt h2
      rw [upd_ne (Nat.ne_of_lt hlt)]
      exact (hf c hcm).1
  done := by
    intro X hP hw hK hc i pins s σ H E I hf st hg
    subst hP hw hK
    obtain ⟨hz, hTI, ⟨x0, y0, hTO⟩, h1, h2, hl1, hl2⟩ := st
    obtain ⟨hqx, hqy, hend⟩ := hg
    obtain ⟨its, rv, p, _⟩ := kSq_obj I hqx
    obtain ⟨its2, rv2, p2, _⟩ := kSq_obj I hqy
    have hh : X.A.in1.handled = none := I.ok.hd hc
    have S2 : ZipSep2 z TI TO i1 i2 [i1, a] [i2, b] := by
      refine ⟨D.TIz, D.TOz, D.TITO, D.TIi1, by simp, ?_, ?_, D.TIi2, by simp, ?_, ?_, ?_, ?_⟩
      · simp only [List.mem_cons, List.not_mem_nil, or_false, not_or]; exact ⟨D.i1z.symm, D.l1z.symm⟩
      · simp only [List.mem_cons, List.not_mem_nil, or_false, not_or]; exact ⟨D.TOi1, D.l1TO.symm⟩
      · simp only [List.mem_cons, List.not_mem_nil, or_false, not_or]; exact ⟨D.i2z.symm, D.l2z.symm⟩
      · simp only [List.mem_cons, List.not_mem_nil, or_false, not_or]; exact ⟨D.TOi2, D.l2TO.symm⟩
      · simp only [List.mem_cons, List.not_mem_nil, or_false, not_or]; exact ⟨D.i12, D.l2i1.symm⟩
      · simp only [List.mem_cons, List.not_mem_nil, or_false, not_or]; exact ⟨D.i12.symm, D.l1i2.symm⟩
    have s1 : its.toArray.size = xs.length := by rw [List.size_toArray]; exact rv.length.symm
    have s2 : its2.toArray.size = ys.length := by rw [List.size_toArray]; exact rv2.length.symm
    exact wpAny_pyNext_zipD2_end S2 (k.draws hh i1 a D.l1i1 its.toArray) (m.draws hh i2 b D.l2i2 its2.toArray) hz hTI hTO ⟨h1, p⟩ ⟨h2, p2⟩ (by omega) (by omega) (by omega) fun h' tk hk => ⟨rfl, I.turnedL (t' := tk) (ch := [z, TI, TO, i1, i2]) (fun c o hb q =>
      hk c o (fun q' => hb (by simp [q'])) (fun q' => hb (by simp [q'])) (fun q' => hb (by simp [q'])) (fun q' => hb (by simp [q'])) q) hf⟩
  self := fun A i s Q E st h => wpAny_pyIter_zip st.1 h
/-- zip(x, y) of what stands still -/
def iZipG (K : PySem.W.Frag) (ta : TA) : TI := fun σ H R => ta σ H fun vs H1 => ∃ (k m : Kd) (a b : Addr) (xs ys : List V), vs = [.ref a, .ref b] ∧ kSq k K H1 a xs ∧ kSq m K H1 b ys ∧ R (Itg k m K a b xs ys) H1
theorem pi_zipG {X : Cx} {e e2 : Expr} {ta : TA} {p pos tpos : Pos} {elts : List Expr} {kk : Nat} (hg : Gl X "zip") (hm : X.mg "zip" = none) (ha : PA X [e, e2] ta)
    (hs : starEach [e, e2] X.env = (false, eval e X.env) :: starEach [e2] X.env := by rfl) (hpl : (backTo pos (starEach [e2] X.env)).any (·.1) = false := by rfl) :
    PI X (.Tuple elts kk tpos) (.Call (.Name "zip" p) [e, e2] [] pos) (iZipG X.K ta) := by
  refine ⟨fun pins s σ H R I h => ?_⟩
  refine Call_ (ld_blt I hg hm PyProof.Rows.boot_zip (PyProof.Rows.callWith_type1 (thn (ha.run pos pins s σ H _ I h) fun us s1 ⟨vs, H1, I1, r1, q1⟩ => ?_) hs hpl))
  obtain ⟨k, m, a, b, xs, ys, rfl, hqx, hqy, q⟩ := q1
  cases r1 with
  | cons r rr => cases rr with
    | cons r' rr =>
      cases rr
      cases r
      cases r'
      obtain ⟨its, rv, p1, lt1⟩ := kSq_obj I1 hqx
      obtain ⟨its2, rv2, p2, lt2⟩ := kSq_obj I1 hqy
      have fresh5 : ∀ c, c ∈ [s1.heap.objs.size + 4, s1.heap.objs.size + 2, s1.heap.objs.size + 3, s1.heap.objs.size, s1.heap.objs.size + 1] → FpOk X pins H1 c := fun c hcm => by
        have hle : s1.heap.objs.size ≤ c := by
          simp only [List.mem_cons, List.not_mem_nil, or_false] at hcm
          rcases hcm with z | z | z | z | z <;> rw [z] <;> first | exact Nat.le_add_right _ _ | exact Nat.le_refl _
        exact I1.fpOk hle (I1.hok.fresh hle)
      refine gz_call k m p1 p2 fun h' ⟨hz, hTI, hTO, h1, h2, hk⟩ => wpAny_pyIter_zip hz ?_
      have I2 : Inv X pins σ H1 { s1 with heap := h' } := I1.kept (t' := s1.toks) hk
      exact ⟨s1.heap.objs.size + 4, [s1.heap.objs.size + 4, s1.heap.objs.size + 2, s1.heap.objs.size + 3, s1.heap.objs.size, s1.heap.objs.size + 1], _, _, H1, rfl, I2, turn_g (us := its.toArray) (ws := its2.toArray) (PySem.W.ktu_apart s1.heap.objs.size a b lt1 lt2) (by rw [List.size_toArray]; exact rv.length.symm) (by rw [List.size_toArray]; exact rv2.length.symm), ⟨hz, hTI, ⟨_, _, hTO⟩, h1, h2, Nat.zero_le _, Nat.zero_le _⟩, fresh5, q⟩
/-- a list or a tuple of one kind, either known or not -/
theorem sq_at {α : Type} {R : α → V → Hp → Prop} {xs : List α} {v : V} {F : Hp} (h : IsSq R xs v F) : ∃ (k : Kd) (a : Addr) (vs : List V), v = .ref a ∧ LsOf R xs vs F ∧ ∀ (K : PySem.W.Frag) (F' H : Hp), Ex F F' → Ex F' H → kSq k K H a vs := by
  rcases h with ⟨a, vs, rfl, ha, u⟩ | ⟨a, vs, rfl, ha, u⟩
  · exact ⟨.l, a, vs, rfl, u.here, fun K F' H e1 e2 => .inl (.inl (e2 _ _ (e1 _ _ ha)))⟩
  · exact ⟨.t, a, vs, rfl, u.here, fun K F' H e1 e2 => .inl (.inl (e2 _ _ (e1 _ _ ha)))⟩
theorem ji_zipG {α β : Type} {X : Cx} {E : En} {G : List Sl} {e : Expr} {Rx : α → V → Hp → Prop} {Ry : β → V → Hp → Prop} {xs : List α} {ys : List β} {K : PySem.W.Frag} {tg : Expr} (p : PI X tg e (iZipG K (tA E G [IsSq Rx xs, IsSq Ry ys]))) :
    PI X tg e (tI E G (fun q : α × β => IsTp [Rx q.1, Ry q.2]) (xs.zip ys)) := PI_imp p fun σ H Rj ⟨F, S, k⟩ =>
  ⟨F, S, fun vs F1 H1 g1 a => by
    cases a with
    | cons r t => cases t with
      | cons r2 t2 =>
        cases t2
        obtain ⟨k1, a, ws, rfl, u, ka⟩ := sq_at r.here
        obtain ⟨k2, b, zs, rfl, w, kb⟩ := sq_at r2.here
        have lu := u.len
        have lw := w.len
        refine ⟨k1, k2, a, b, ws, zs, rfl, ka K F1 H1 (Ex.refl _) g1.s, kb K F1 H1 (Ex.refl _) g1.s, k _ F1 H1 g1 ⟨fun i F2 H2 hi e1 e2 => ?_, fun F2 H2 e1 e2 => ?_, fun i q F2 H2 v H3 hq e1 o y => ?_⟩⟩
        · rw [List.length_zip] at hi
          exact ⟨ka K F2 H2 e1 e2, kb K F2 H2 e1 e2, by omega, by omega⟩
        · refine ⟨ka K F2 H2 e1 e2, kb K F2 H2 e1 e2, ?_⟩
          rw [List.length_zip]
          omega
        · obtain ⟨T, x, z, rfl, hT, rfl, f1, f2⟩ := y
          rw [List.getElem?_zip_eq_some] at hq
          obtain ⟨v1, hv1, uv1⟩ := u.get hq.1
          obtain ⟨v2, hv2, uv2⟩ := w.get hq.2
          rw [hv1] at f1
          rw [hv2] at f2
          have q1 : v1 = x := Option.some.inj f1
          have q2 : v2 = z := Option.some.inj f2
          subst q1
          subst q2
          have hx := Ex.new (o := HO.tup [v1, v2]) (o.s.back hT)
          exact ⟨_, Gr.new o hT, TupOf.up ⟨T, _, rfl, upd_same, Args.up (.cons ((uv1.mono e1).mono hx) (.cons ((uv2.mono e1).mono hx) .nil))⟩⟩⟩
end Gw
set_option maxHeartbeats 4000000
/-! == and != of lists and tuples with items of own kinds, told either way. -/
namespace GwE
open PySem PySem.SeqAt
open AutoSeq1 (wpAny_loadPart')
open MeetsSeq MeetsSeq2 MeetsSeq3 SeqRoads2
section
variable {prog : Program} {w : World} {A : Around} {R : Result → Shared → Prop}
def ListE (prog : Program) (w : World) (A : Around) (E : Value → Shared → Prop) (l b : Addr) (N : Nat) (e : Nat → Bool) (I : Nat → Shared → Prop) : Prop :=
  ∀ i s, I i s → ∃ (items items2 : Array Value) (n n2 : Nat), s.heap.get? l = some { cls := .type "list", data := .seq items n } ∧ s.heap.get? b = some { cls := .type "list", data := .seq items2 n2 } ∧ items.size = N ∧ items2.size = N ∧
    ∀ (h1 : i < items.size) (h2 : i < items2.size), wpAny (model prog w) A.in1 (eqBool items[i] items2[i]) (fun r s' => r = e i ∧ I (i + 1) s') E s
theorem eq_loopE (l b : Addr) (N : Nat) (e : Nat → Bool) (I : Nat → Shared → Prop) (hl : ListE prog w A (fun e s' => R (.error e) s') l b N e I)
    (fin : ∀ s, (∀ j, j < N → e j = true) → I N s → R (.ok (.ret (.bool true))) s) (out : ∀ i s, i < N → e i = false → I (i + 1) s → R (.ok (.ret (.bool false))) s) (k : Nat) :
    ∀ i : Nat, N - i = k → i ≤ N → (∀ j, j < i → e j = true) → ∀ s, I i s →
      wpAny (model prog w) A.in1 (Builtin.«list.__eq__.loop» ⟨[.ref l, .ref b, rawInt i, rawInt 2], []⟩) (GQ.FinOf prog w A R) (fun e s' => R (.error e) s') s := by
  induction k with
  | zero =>
    intro i hk hi hb0 s h
    obtain ⟨items, items2, n, n2, hl1, hb1, hs1, hs2, _⟩ := hl _ _ h
    have hi' : i = N := by omega
    have hR : R (.ok (.ret (.bool true))) s := fin s (fun j hj => hb0 j (by omega)) (hi' ▸ h)
    obtain ⟨hp, g, d, tk, os⟩ := s
    wp_walk using wpAny_loadPart' hl1, wpAny_loadPart' hb1
    have hi1 : items[((i : Nat) : Int).toNat]? = none := by simp; omega
    have hi2 : items2[((i : Nat) : Int).toNat]? = none := by simp; omega
    rw [hi1, hi2]
    wp_walk using wpAny_loadPart' hl1, wpAny_loadPart' hb1
    show R (.ok (.ret (.bool (items.size == items2.size)))) _
    rw [hs1, hs2]
    simpa using hR
  | succ k ih =>
    intro i hk hi hb0 s h
    obtain ⟨items, items2, n, n2, hl1, hb1, hs1, hs2, turn⟩ := hl _ _ h
    have hlt : i < items.size := by omega
    have hlt2 : i < items2.size := by omega
    have ht := turn hlt hlt2
    obtain ⟨hp, g, d, tk, os⟩ := s
    wp_walk using wpAny_loadPart' hl1, wpAny_loadPart' hb1
    have hi1 : items[((i : Nat) : Int).toNat]? = some items[i] := by simp [hlt]
    have hi2 : items2[((i : Nat) : Int).toNat]? = some items2[i] := by simp [hlt2]
    have hc : ((i : Int) + 1) = ((i + 1 : Nat) : Int) := by omega
    rw [hi1, hi2]
    refine wpAny_bind (wpAny_mono ht (fun r s2 h2 => ?_) fun _ _ x => x)
    obtain ⟨hr, h2⟩ := h2
    cases he : e i with
    | true =>
      rw [he] at hr
      subst hr
      have hrec := ih (i + 1) (by omega) (by omega) (fun j hj => by
        by_cases q : j = i
        · rw [q]; exact he
        · exact hb0 j (by omega)) s2 h2
      obtain ⟨hp2, g2, d2, tk2, os2⟩ := s2
      wp_walk
      rw [hc]
      exact ⟨plainId_quiet plain_eq_loop _, codeAny_builtin entry_eq_loop (by
        rw [Around.under_plainId plain_eq_loop _]
        exact hrec)⟩
    | false =>
      rw [he] at hr
      subst hr
      have hR := out i s2 (by omega) he h2
      obtain ⟨it3, it4, n3, n4, hl3, hb3, hs3, hs4, _⟩ := hl _ _ h2
      obtain ⟨hp2, g2, d2, tk2, os2⟩ := s2
      wp_walk using wpAny_loadPart' hl3, wpAny_loadPart' hb3
      have hj1 : it3[((i : Nat) : Int).toNat]? = some it3[i] := by
        have : i < it3.size := by omega
        simp [this]
      have hj2 : it4[((i : Nat) : Int).toNat]? = some it4[i] := by
        have : i < it4.size := by omega
        simp [this]
      rw [hj1, hj2]
      wp_walk
      simpa using hR
theorem ne_loopE (l b : Addr) (N : Nat) (e : Nat → Bool) (I : Nat → Shared → Prop) (hl : ListE prog w A (fun e s' => R (.error e) s') l b N e I)
    (fin : ∀ s, (∀ j, j < N → e j = true) → I N s → R (.ok (.ret (.bool false))) s) (out : ∀ i s, i < N → e i = false → I (i + 1) s → R (.ok (.ret (.bool true))) s) (k : Nat) :
    ∀ i : Nat, N - i = k → i ≤ N → (∀ j, j < i → e j = true) → ∀ s, I i s →
      wpAny (model prog w) A.in1 (Builtin.«list.__eq__.loop» ⟨[.ref l, .ref b, rawInt i, rawInt 3], []⟩) (GQ.FinOf prog w A R) (fun e s' => R (.error e) s') s := by
  induction k with
  | zero =>
    intro i hk hi hb0 s h
    obtain ⟨items, items2, n, n2, hl1, hb1, hs1, hs2, _⟩ := hl _ _ h
    have hi' : i = N := by omega
    have hR : R (.ok (.ret (.bool false))) s := fin s (fun j hj => hb0 j (by omega)) (hi' ▸ h)
    obtain ⟨hp, g, d, tk, os⟩ := s
    wp_walk using wpAny_loadPart' hl1, wpAny_loadPart' hb1
    have hi1 : items[((i : Nat) : Int).toNat]? = none := by simp; omega
    have hi2 : items2[((i : Nat) : Int).toNat]? = none := by simp; omega
    rw [hi1, hi2]
    wp_walk using wpAny_loadPart' hl1, wpAny_loadPart' hb1
    show R (.ok (.ret (.bool (items.size != items2.size)))) _
    rw [hs1, hs2]
    simpa using hR
  | succ k ih =>
    intro i hk hi hb0 s h
    obtain ⟨items, items2, n, n2, hl1, hb1, hs1, hs2, turn⟩ := hl _ _ h
    have hlt : i < items.size := by omega
    have hlt2 : i < items2.size := by omega
    have ht := turn hlt hlt2
    obtain ⟨hp, g, d, tk, os⟩ := s
    wp_walk using wpAny_loadPart' hl1, wpAny_loadPart' hb1
    have hi1 : items[((i : Nat) : Int).toNat]? = some items[i] := by simp [hlt]
    have hi2 : items2[((i : Nat) : Int).toNat]? = some items2[i] := by simp [hlt2]
    have hc : ((i : Int) + 1) = ((i + 1 : Nat) : Int) := by omega
    rw [hi1, hi2]
    refine wpAny_bind (wpAny_mono ht (fun r s2 h2 => ?_) fun _ _ x => x)
    obtain ⟨hr, h2⟩ := h2
    cases he : e i with
    | true =>
      rw [he] at hr
      subst hr
      have hrec := ih (i + 1) (by omega) (by omega) (fun j hj => by
        by_cases q : j = i
        · rw [q]; exact he
        · exact hb0 j (by omega)) s2 h2
      obtain ⟨hp2, g2, d2, tk2, os2⟩ := s2
      wp_walk
      rw [hc]
      exact ⟨plainId_quiet plain_eq_loop _, codeAny_builtin entry_eq_loop (by
        rw [Around.under_plainId plain_eq_loop _]
        exact hrec)⟩
    | false =>
      rw [he] at hr
      subst hr
      have hR := out i s2 (by omega) he h2
      obtain ⟨it3, it4, n3, n4, hl3, hb3, hs3, hs4, _⟩ := hl _ _ h2
      obtain ⟨hp2, g2, d2, tk2, os2⟩ := s2
      wp_walk using wpAny_loadPart' hl3, wpAny_loadPart' hb3
      have hj1 : it3[((i : Nat) : Int).toNat]? = some it3[i] := by
        have : i < it3.size := by omega
        simp [this]
      have hj2 : it4[((i : Nat) : Int).toNat]? = some it4[i] := by
        have : i < it4.size := by omega
        simp [this]
      rw [hj1, hj2]
      wp_walk
      simpa using hR
theorem list_eqE (l b : Addr) (N : Nat) (e : Nat → Bool) (I : Nat → Shared → Prop) (hl : ListE prog w A (fun e s' => R (.error e) s') l b N e I)
    (fin : ∀ s, (∀ j, j < N → e j = true) → I N s → R (.ok (.ret (.bool true))) s) (out : ∀ i s, i < N → e i = false → I (i + 1) s → R (.ok (.ret (.bool false))) s) {s : Shared} (h : I 0 s) :
    wpAny (model prog w) A.in1 (Builtin.«list.__eq__» ⟨[.ref l, .ref b], []⟩) (GQ.FinOf prog w A R) (fun e s' => R (.error e) s') s := by
  obtain ⟨items, items2, n, n2, hl1, hb1, hs1, hs2, _⟩ := hl _ _ h
  have hrec := eq_loopE (A := A) (R := R) l b N e I hl fin out _ 0 rfl (Nat.zero_le _) (fun j hj => by omega) s h
  obtain ⟨hp, g, d, tk, os⟩ := s
  have f3 := AutoSeq1.sub_list_list
  have hne : ¬ (items.size != items2.size) = true := by simp [hs1, hs2]
  wp_walk using wpAny_loadPart' hl1, wpAny_loadPart' hb1
  exact ⟨plainId_quiet plain_eq_loop _, codeAny_builtin entry_eq_loop (by
    rw [Around.under_plainId plain_eq_loop _]
    exact hrec)⟩
theorem list_neE (l b : Addr) (N : Nat) (e : Nat → Bool) (I : Nat → Shared → Prop) (hl : ListE prog w A (fun e s' => R (.error e) s') l b N e I)
    (fin : ∀ s, (∀ j, j < N → e j = true) → I N s → R (.ok (.ret (.bool false))) s) (out : ∀ i s, i < N → e i = false → I (i + 1) s → R (.ok (.ret (.bool true))) s) {s : Shared} (h : I 0 s) :
    wpAny (model prog w) A.in1 (Builtin.«list.__ne__» ⟨[.ref l, .ref b], []⟩) (GQ.FinOf prog w A R) (fun e s' => R (.error e) s') s := by
  obtain ⟨items, items2, n, n2, hl1, hb1, hs1, hs2, _⟩ := hl _ _ h
  have hrec := ne_loopE (A := A) (R := R) l b N e I hl fin out _ 0 rfl (Nat.zero_le _) (fun j hj => by omega) s h
  obtain ⟨hp, g, d, tk, os⟩ := s
  have f3 := AutoSeq1.sub_list_list
  have hne : ¬ (items.size != items2.size) = true := by simp [hs1, hs2]
  wp_walk using wpAny_loadPart' hl1, wpAny_loadPart' hb1
  exact ⟨plainId_quiet plain_eq_loop _, codeAny_builtin entry_eq_loop (by
    rw [Around.under_plainId plain_eq_loop _]
    exact hrec)⟩
theorem list_eqL (l b : Addr) (items items2 : Array Value) (n n2 : Nat) (hne : (items.size != items2.size) = true) {s : Shared} (hl1 : s.heap.get? l = some { cls := .type "list", data := .seq items n }) (hb1 : s.heap.get? b = some { cls := .type "list", data := .seq items2 n2 })
    (h : R (.ok (.ret (.bool false))) s) : wpAny (model prog w) A.in1 (Builtin.«list.__eq__» ⟨[.ref l, .ref b], []⟩) (GQ.FinOf prog w A R) (fun e s' => R (.error e) s') s := by
  obtain ⟨hp, g, d, tk, os⟩ := s
  have f3 := AutoSeq1.sub_list_list
  wp_walk using wpAny_loadPart' hl1, wpAny_loadPart' hb1
  exact h
theorem tuple_eqE (l b : Addr) (items items2 : Array Value) (n n2 : Nat) (dd dd2 : Option Addr) (sl sl2 : Array (Option Value)) (hsz : items.size = items2.size) (e : Nat → Bool) (I : Nat → Shared → Prop)
    (turn : ∀ i (h1 : i < items.size) (h2 : i < items2.size) s, I i s → wpAny (model prog w) A.in1 (eqBool items[i] items2[i]) (fun r s' => r = e i ∧ I (i + 1) s') (fun e s' => R (.error e) s') s)
    (fin : ∀ s, (∀ j, j < items.size → e j = true) → I items.size s → R (.ok (.ret (.bool true))) s) (out : ∀ i s, i < items.size → e i = false → I (i + 1) s → R (.ok (.ret (.bool false))) s) {s : Shared} (hl1 : s.heap.get? l = some { cls := .type "tuple", dict := dd, data := .seq items n, slots := sl }) (hb1 : s.heap.get? b = some { cls := .type "tuple", dict := dd2, data := .seq items2 n2, slots := sl2 }) (h : I 0 s) :
    wpAny (model prog w) A.in1 (Builtin.«tuple.__eq__» ⟨[.ref l, .ref b], []⟩) (GQ.FinOf prog w A R) (fun e s' => R (.error e) s') s := by
  have f2 := AutoSeq1.sub_tuple_tuple
  have hZ : (items.toList.zip items2.toList).length = items.size := by simp [hsz]
  have h0 := h
  obtain ⟨hp, g, d, tk, os⟩ := s
  wp_walk using wpAny_loadPart' hl1, wpAny_loadPart' hb1, wpAny_forIn_list _ (fun rest b s' => b.1 = none ∧ ∃ i, rest = (items.toList.zip items2.toList).drop i ∧ i ≤ items.size ∧ (∀ j, j < i → e j = true) ∧ I i s') _
  case turn =>
    rintro ⟨y, x⟩ rest b s' ⟨hb', i, hz, hi, hj, hI⟩
    have hlt : i < (items.toList.zip items2.toList).length := by
      rcases Nat.lt_or_ge i (items.toList.zip items2.toList).length with h' | h'
      · exact h'
      · rw [List.drop_of_length_le h'] at hz; cases hz
    have h1 : i < items.size := hZ ▸ hlt
    have h2 : i < items2.size := hsz ▸ h1
    rw [List.drop_eq_getElem_cons hlt] at hz
    injection hz with hyx hrest
    have hy : y = items[i] := by have := congrArg Prod.fst hyx; simpa using this
    have hx : x = items2[i] := by have := congrArg Prod.snd hyx; simpa using this
    subst hy hx
    refine wpAny_bind (wpAny_mono (turn i h1 h2 s' hI) (fun r s2 q2 => ?_) fun _ _ x => x)
    obtain ⟨hr, q2⟩ := q2
    cases he : e i with
    | true =>
      rw [he] at hr
      subst hr
      wp_walk
      exact ⟨rfl, i + 1, hrest, h1, fun j hj' => by
        by_cases q : j = i
        · rw [q]; exact he
        · exact hj j (by omega), q2⟩
    | false =>
      rw [he] at hr
      subst hr
      have hR := out i s2 h1 he q2
      wp_walk
      exact hR
  case fin =>
    rintro ⟨b1, b2⟩ s' ⟨hb', i, hz, hi, hj, hI⟩
    simp only at hb'
    subst hb'
    have hge : items.size ≤ i := by
      rcases Nat.lt_or_ge i (items.toList.zip items2.toList).length with h' | h'
      · rw [List.drop_eq_getElem_cons h'] at hz; cases hz
      · exact hZ ▸ h'
    have hi' : i = items.size := by omega
    have hR : R (.ok (.ret (.bool true))) s' := fin s' (fun j hj' => hj j (by omega)) (hi' ▸ hI)
    wp_walk
    simpa [Builtin.Tuple.tupleCompareSizes, hsz] using hR
  case h =>
    exact ⟨rfl, 0, rfl, Nat.zero_le _, fun j hj => by omega, h0⟩
end
end GwE
set_option maxHeartbeats 4000000
/-! == and != told either way, over the hand layer. -/
namespace GwE
open PySem PySem.SeqAt
open AutoSeq1 (wpAny_loadPart')
open MeetsSeq MeetsSeq2 MeetsSeq3 SeqRoads2
section
variable {prog : Program} {w : World} {A : Around} {E : Value → Shared → Prop} {s : Shared}
theorem rc_listE {l b : Addr} {N : Nat} {Q : Value → Shared → Prop} (hu : A.units < cLine) (e : Nat → Bool) (I : Nat → Shared → Prop) (hl : ListE prog w A E l b N e I)
    (fin : ∀ s, (∀ j, j < N → e j = true) → I N s → Q (.bool true) s) (out : ∀ i s, i < N → e i = false → I (i + 1) s → Q (.bool false) s) (h : I 0 s) : wpAny (model prog w) A (richCompare .Eq (.ref l) (.ref b)) Q E s := by
  obtain ⟨items, items2, n, n2, hl1, hb1, _, _, _⟩ := hl _ _ h
  refine wpAny_richCompare_same_room (op := .Eq) ⟨_, hl1, rfl⟩ ⟨_, hb1, rfl⟩ F.slot_list_eq (GQ.call_here F.slot_list_eq ⟨_, hl1, rfl⟩ F.entry_list_eq (F.args_list_eq_2 _ _) ?_) hu
  exact list_eqE (R := wants (fun v s' => v ≠ .notImplemented ∧ Q v s') E) l b N e I hl (fun s' z q => ⟨(fun x => nomatch x), fin s' z q⟩) (fun i s' a z q => ⟨(fun x => nomatch x), out i s' a z q⟩) h
theorem rc_listNE {l b : Addr} {N : Nat} {Q : Value → Shared → Prop} (hu : A.units < cLine) (e : Nat → Bool) (I : Nat → Shared → Prop) (hl : ListE prog w A E l b N e I)
    (fin : ∀ s, (∀ j, j < N → e j = true) → I N s → Q (.bool false) s) (out : ∀ i s, i < N → e i = false → I (i + 1) s → Q (.bool true) s) (h : I 0 s) : wpAny (model prog w) A (richCompare .NotEq (.ref l) (.ref b)) Q E s := by
  obtain ⟨items, items2, n, n2, hl1, hb1, _, _, _⟩ := hl _ _ h
  refine wpAny_richCompare_same_room (op := .NotEq) ⟨_, hl1, rfl⟩ ⟨_, hb1, rfl⟩ F.slot_list_ne (GQ.call_here F.slot_list_ne ⟨_, hl1, rfl⟩ F.entry_list_ne (F.args_list_ne_2 _ _) ?_) hu
  exact list_neE (R := wants (fun v s' => v ≠ .notImplemented ∧ Q v s') E) l b N e I hl (fun s' z q => ⟨(fun x => nomatch x), fin s' z q⟩) (fun i s' a z q => ⟨(fun x => nomatch x), out i s' a z q⟩) h
theorem rc_listL {l b : Addr} {items items2 : Array Value} {n n2 : Nat} {Q : Value → Shared → Prop} (hu : A.units < cLine) (hne : (items.size != items2.size) = true) (hl1 : s.heap.get? l = some { cls := .type "list", data := .seq items n }) (hb1 : s.heap.get? b = some { cls := .type "list", data := .seq items2 n2 })
    (h : Q (.bool false) s) : wpAny (model prog w) A (richCompare .Eq (.ref l) (.ref b)) Q E s := by
  refine wpAny_richCompare_same_room (op := .Eq) ⟨_, hl1, rfl⟩ ⟨_, hb1, rfl⟩ F.slot_list_eq (GQ.call_here F.slot_list_eq ⟨_, hl1, rfl⟩ F.entry_list_eq (F.args_list_eq_2 _ _) ?_) hu
  exact list_eqL (R := wants (fun v s' => v ≠ .notImplemented ∧ Q v s') E) l b items items2 n n2 hne hl1 hb1 ⟨(fun x => nomatch x), h⟩
theorem rc_tupE {l b : Addr} {items items2 : Array Value} {Q : Value → Shared → Prop} (hsz : items.size = items2.size) (hu : A.units < cLine) (e : Nat → Bool) (I : Nat → Shared → Prop)
    (hl : s.heap.IsTuple l items) (hb : s.heap.IsTuple b items2)
    (turn : ∀ i (h1 : i < items.size) (h2 : i < items2.size) s, I i s → wpAny (model prog w) A.in1 (eqBool items[i] items2[i]) (fun r s' => r = e i ∧ I (i + 1) s') E s)
    (fin : ∀ s, (∀ j, j < items.size → e j = true) → I items.size s → Q (.bool true) s) (out : ∀ i s, i < items.size → e i = false → I (i + 1) s → Q (.bool false) s) (h : I 0 s) : wpAny (model prog w) A (richCompare .Eq (.ref l) (.ref b)) Q E s := by
  obtain ⟨⟨cls, dd, data, sl⟩, ho, hc, n, hd⟩ := id hl
  obtain ⟨⟨cls2, dd2, data2, sl2⟩, ho2, hc2, n2, hd2⟩ := id hb
  simp only at hc hd hc2 hd2
  subst hc hd hc2 hd2
  refine wpAny_richCompare_same_room (op := .Eq) ⟨_, ho, rfl⟩ ⟨_, ho2, rfl⟩ F.slot_tuple_eq (GQ.call_here F.slot_tuple_eq ⟨_, ho, rfl⟩ F.entry_tuple_eq (F.args_tuple_eq_2 _ _) ?_) hu
  exact tuple_eqE (R := wants (fun v s' => v ≠ .notImplemented ∧ Q v s') E) l b items items2 n n2 dd dd2 sl sl2 hsz e I turn (fun s' z q => ⟨(fun x => nomatch x), fin s' z q⟩) (fun i s' a z q => ⟨(fun x => nomatch x), out i s' a z q⟩) ho ho2 h
end
end GwE
namespace Gw
open PySem PySem.Spec PyProof.Rows L2
/-- how two values are seen to be equal or not, by the abstract heap -/
abbrev EqB := V → V → Hp → Bool → Prop
def MonB (D : EqB) : Prop := ∀ x y H H' b, Ext H H' → D x y H b → D x y H' b
def RflB (D : EqB) : Prop := ∀ x H b, D x x H b → b = true
def EqD (X : Cx) (n : Nat) (D : EqB) : Prop :=
  ∀ (A : Around) (pins : List (Addr × Obj)) (s : Shared) (σ : L2.St) (H : Hp) (x y : V) (u v : Value) (b : Bool), Sub X n A → Inv X pins σ H s → RelV x u → RelV y v → D x y H b →
    wpAny (model X.prog X.w) A (eqBool u v) (fun r s' => r = b ∧ ∃ H', Inv X pins σ H' s' ∧ Ext H H') X.xe s
def RcD (X : Cx) (n : Nat) (op : CmpOp) (D : EqB) : Prop :=
  ∀ (A : Around) (pins : List (Addr × Obj)) (s : Shared) (σ : L2.St) (H : Hp) (x y : V) (u v : Value) (b : Bool), Sub X n A → Inv X pins σ H s → RelV x u → RelV y v → D x y H b →
    wpAny (model X.prog X.w) A (richCompare op u v) (fun r s' => r = .bool b ∧ ∃ H', Inv X pins σ H' s' ∧ Ext H H') X.xe s
section
variable {X : Cx} {n m : Nat} {D : EqB}
def PrsB (D : EqB) (xs ys : List V) (H : Hp) (e : Nat → Bool) : Prop := ∀ (i : Nat) x y, xs[i]? = some x → ys[i]? = some y → D x y H (e i)
theorem turnB (hD : MonB D) (h : EqD X n D) {A : Around} (sb : Sub X (n + 1) A) {pins : List (Addr × Obj)} {σ : L2.St} {H : Hp} {xs ys : List V} {its its2 : List Value} {e : Nat → Bool} (p : PrsB D xs ys H e) (r : Vals xs its) (r2 : Vals ys its2)
    (i : Nat) (h1 : i < its.toArray.size) (h2 : i < its2.toArray.size) (s' : Shared) (l : LoopI X pins σ H s') :
    wpAny (model X.prog X.w) A.in1 (eqBool its.toArray[i] its2.toArray[i]) (fun r s2 => r = e i ∧ LoopI X pins σ H s2) X.xe s' := by
  obtain ⟨H1, I1, e1⟩ := l
  have g1 : its[i]? = some its.toArray[i] := by
    have h1' : i < its.length := by simpa using h1
    rw [List.getElem?_eq_getElem h1'] <;> simp
  have g2 : its2[i]? = some its2.toArray[i] := by
    have h2' : i < its2.length := by simpa using h2
    rw [List.getElem?_eq_getElem h2'] <;> simp
  have k1 : i < xs.length := by rw [r.length]; simpa using h1
  have k2 : i < ys.length := by rw [r2.length]; simpa using h2
  obtain ⟨u, hu, ru⟩ := r.get (List.getElem?_eq_getElem k1)
  obtain ⟨v, hv, rv⟩ := r2.get (List.getElem?_eq_getElem k2)
  rw [g1] at hu
  rw [g2] at hv
  rw [Option.some.inj hu, Option.some.inj hv]
  refine wpAny_mono (h A.in1 pins s' σ H1 _ _ u v _ sb.in1 I1 ru rv (hD _ _ _ _ _ e1 (p i _ _ (List.getElem?_eq_getElem k1) (List.getElem?_eq_getElem k2)))) (fun r s2 q => ?_) fun _ _ x => x
  obtain ⟨hr, H2, I2, e2⟩ := q
  exact ⟨hr, H2, I2, e1.trans e2⟩
/-- two lists, item by item -/
def DLs (D : EqB) : EqB := fun x y H b => ∃ a c xs ys, x = .ref a ∧ y = .ref c ∧ H a = some (.lst xs) ∧ H c = some (.lst ys) ∧ (xs.length ≠ ys.length → b = false) ∧ (xs.length = ys.length → ∃ e, PrsB D xs ys H e ∧ (b = true ↔ ∀ j, j < xs.length → e j = true))
def DTp (K : PySem.W.Frag) (D : EqB) : EqB := fun x y H b => ∃ a c xs ys e, x = .ref a ∧ y = .ref c ∧ SqT K H a xs ∧ SqT K H c ys ∧ xs.length = ys.length ∧ PrsB D xs ys H e ∧ (b = true ↔ ∀ j, j < xs.length → e j = true)
theorem PrsB.mon (hD : MonB D) {xs ys : List V} {H H' : Hp} {e : Nat → Bool} (x : Ext H H') (p : PrsB D xs ys H e) : PrsB D xs ys H' e := fun i a b h1 h2 => hD a b H H' _ x (p i a b h1 h2)
theorem monB_ls (hD : MonB D) : MonB (DLs D) := fun x y H H' b e d => by
  obtain ⟨a, c, xs, ys, hx, hy, h1, h2, h3, h4⟩ := d
  exact ⟨a, c, xs, ys, hx, hy, e _ _ h1, e _ _ h2, h3, fun q => let ⟨f, p, z⟩ := h4 q; ⟨f, p.mon hD e, z⟩⟩
theorem monB_tp {K : PySem.W.Frag} (hD : MonB D) : MonB (DTp K D) := fun x y H H' b e d => by
  obtain ⟨a, c, xs, ys, f, hx, hy, h1, h2, h3, p, z⟩ := d
  exact ⟨a, c, xs, ys, f, hx, hy, h1.ext e, h2.ext e, h3, p.mon hD e, z⟩
theorem rfl_ls (hR : RflB D) : RflB (DLs D) := fun x H b d => by
  obtain ⟨a, c, xs, ys, hx, hy, h1, h2, h3, h4⟩ := d
  rw [hx] at hy
  cases hy
  rw [h1] at h2
  cases h2
  obtain ⟨e, p, z⟩ := h4 rfl
  refine z.mpr fun j hj => hR _ H _ (p j xs[j] xs[j] ?_ ?_) <;> exact List.getElem?_eq_getElem hj
theorem sqT_uni {K : PySem.W.Frag} {pins : List (Addr × Obj)} {σ : L2.St} {H : Hp} {s : Shared} (I : Inv X pins σ H s) (hK : K = X.K) {a : Addr} {xs : List V} (h : SqT K H a xs) : ∃ its, Vals xs its ∧ s.heap.IsTuple a its.toArray := by
  subst hK
  obtain ⟨its, r, e, z⟩ := I.tuple h
  exact ⟨its, r, e⟩
theorem eqD_of (h : RcD X n .Eq D) (hR : RflB D) (hr : ∀ x y H b, D x y H b → ∃ a c, x = .ref a ∧ y = .ref c) : EqD X n D := by
  intro A pins s σ H x y u v b sb I rx ry d
  obtain ⟨a, c, rfl, rfl⟩ := hr _ _ _ _ d
  cases rx
  cases ry
  by_cases hab : a = c
  · subst hab
    rw [hR _ _ _ d]
    exact SeqAt.EqAt.same (A := A) (s := s) (.ref a) X.prog X.w X.xe _ ⟨rfl, H, I, Ext.rfl'⟩
  · refine GQ.eqBool_refG hab (wpAny_mono (h A pins s σ H (.ref a) (.ref c) _ _ _ sb I rfl rfl d) (fun r s' q => ?_) fun _ _ x => x)
    obtain ⟨hr', q⟩ := q
    exact ⟨b, hr', rfl, q⟩
theorem rcD_ls (hD : MonB D) (h : EqD X n D) : RcD X (n + 1) .Eq (DLs D) := by
  intro A pins s σ H x y u v b sb I rx ry d
  obtain ⟨a, c, xs, ys, rfl, rfl, ha, hb, h3, h4⟩ := d
  cases rx
  cases ry
  by_cases hl : xs.length = ys.length
  · obtain ⟨e, p, z⟩ := h4 hl
    refine GwE.rc_listE (N := xs.length) sb.room.units0 e (fun _ s' => LoopI X pins σ H s') (fun i s' q => ?_) (fun s' a q => ⟨by rw [z.mpr a], q⟩) (fun i s' hi a q => ⟨?_, q⟩) ⟨H, I, Ext.rfl'⟩
    · obtain ⟨H1, I1, e1⟩ := id q
      obtain ⟨zz, its, k, r, ee⟩ := I1.hok a _ (e1 _ _ ha)
      obtain ⟨z2, its2, k2, r2, e2⟩ := I1.hok c _ (e1 _ _ hb)
      refine ⟨its.toArray, its2.toArray, k, k2, ee, e2, by rw [List.size_toArray, ← r.length], by rw [List.size_toArray, ← r2.length, ← hl], fun h1 h2 => ?_⟩
      exact turnB hD h sb p r r2 i h1 h2 s' q
    · congr 1
      cases hb' : b with
      | false => rfl
      | true => rw [z.mp hb' i hi] at a; cases a
  · obtain ⟨zz, its, k, r, ee⟩ := I.hok a _ ha
    obtain ⟨z2, its2, k2, r2, e2⟩ := I.hok c _ hb
    refine GwE.rc_listL sb.room.units0 (items := its.toArray) (items2 := its2.toArray) ?_ ee e2 ⟨by rw [h3 hl], H, I, Ext.rfl'⟩
    rw [List.size_toArray, List.size_toArray, ← r.length, ← r2.length]
    simpa using hl
theorem rcD_lsN (hD : MonB D) (h : EqD X n D) : RcD X (n + 1) .NotEq (fun x y H b => (∃ a c xs ys, x = .ref a ∧ y = .ref c ∧ H a = some (.lst xs) ∧ H c = some (.lst ys) ∧ xs.length = ys.length ∧ ∃ e, PrsB D xs ys H e ∧ (b = false ↔ ∀ j, j < xs.length → e j = true))) := by
  intro A pins s σ H x y u v b sb I rx ry d
  obtain ⟨a, c, xs, ys, rfl, rfl, ha, hb, hl, e, p, z⟩ := d
  cases rx
  cases ry
  refine GwE.rc_listNE (N := xs.length) sb.room.units0 e (fun _ s' => LoopI X pins σ H s') (fun i s' q => ?_) (fun s' a q => ⟨by rw [z.mpr a], q⟩) (fun i s' hi a q => ⟨?_, q⟩) ⟨H, I, Ext.rfl'⟩
  · obtain ⟨H1, I1, e1⟩ := id q
    obtain ⟨zz, its, k, r, ee⟩ := I1.hok a _ (e1 _ _ ha)
    obtain ⟨z2, its2, k2, r2, e2⟩ := I1.hok c _ (e1 _ _ hb)
    refine ⟨its.toArray, its2.toArray, k, k2, ee, e2, by rw [List.size_toArray, ← r.length], by rw [List.size_toArray, ← r2.length, ← hl], fun h1 h2 => ?_⟩
    exact turnB hD h sb p r r2 i h1 h2 s' q
  · congr 1
    cases hb' : b with
    | true => rfl
    | false => rw [z.mp hb' i hi] at a; cases a
theorem rcD_tp (hD : MonB D) (h : EqD X n D) : RcD X (n + 1) .Eq (DTp X.K D) := by
  intro A pins s σ H x y u v b sb I rx ry d
  obtain ⟨a, c, xs, ys, e, rfl, rfl, ha, hb, hl, p, z⟩ := d
  cases rx
  cases ry
  obtain ⟨its, r, ee, zz⟩ := I.tuple ha
  obtain ⟨its2, r2, e2, z2⟩ := I.tuple hb
  have hsz : its.toArray.size = its2.toArray.size := by rw [List.size_toArray, List.size_toArray, ← r.length, ← r2.length]; exact hl
  have hxs : xs.length = its.toArray.size := by rw [List.size_toArray, ← r.length]
  refine GwE.rc_tupE hsz sb.room.units0 e (fun _ s' => LoopI X pins σ H s') ee e2 (fun i h1 h2 s' q => turnB hD h sb p r r2 i h1 h2 s' q) (fun s' a q => ⟨by rw [z.mpr (by rw [hxs]; exact a)], q⟩) (fun i s' hi a q => ⟨?_, q⟩) ⟨H, I, Ext.rfl'⟩
  congr 1
  cases hb' : b with
  | false => rfl
  | true => rw [z.mp hb' i (by rw [hxs]; exact hi)] at a; cases a
/-- two Ratios -/
def DQ (C : Addr) : EqB := fun x y H b => ∃ a c dx dy q r, x = .ref a ∧ y = .ref c ∧ H a = some (.ins C dx (qFs q)) ∧ H c = some (.ins C dy (qFs r)) ∧ b = decide (q = r)
theorem monB_q {C : Addr} : MonB (DQ C) := fun x y H H' b e d => by
  obtain ⟨a, c, dx, dy, q, r, hx, hy, h1, h2, z⟩ := d
  exact ⟨a, c, dx, dy, q, r, hx, hy, e _ _ h1, e _ _ h2, z⟩
theorem qFs_inj {q r : Rat} (h : qFs q = qFs r) : q = r := by
  unfold qFs at h
  injection h with h1 h2
  injection h2 with h3 h4
  have e1 := congrArg Prod.snd h1
  have e2 := congrArg Prod.snd h3
  have e1 : V.int q.num = V.int r.num := e1
  have e2 : V.int (q.den : Int) = V.int (r.den : Int) := e2
  injection e1 with e1
  injection e2 with e2
  exact Rat.ext e1 (by omega)
theorem rfl_q {C : Addr} : RflB (DQ C) := fun x H b d => by
  obtain ⟨a, c, dx, dy, q, r, hx, hy, h1, h2, z⟩ := d
  rw [hx] at hy
  cases hy
  rw [h1] at h2
  injection h2 with h2
  injection h2 with _ _ h3
  rw [z, decide_eq_true (qFs_inj h3)]
theorem rcD_q {C : Addr} (T : EqK X.prog X.w X.K X.mg X.base C n) : RcD X n .Eq (DQ C) := by
  obtain ⟨f, fd, hs, hf, _, _, F, hb⟩ := T
  intro A pins s σ H x y u v b sb I rx ry d
  obtain ⟨a, c, dx, dy, q, r, rfl, rfl, ha, hb', hz⟩ := d
  cases rx
  cases ry
  obtain ⟨mA, J, _⟩ := ins_get I.hok ha
  obtain ⟨mB, J', _⟩ := ins_get I.hok hb'
  obtain ⟨od, J, _⟩ := J.look
  obtain ⟨od', J', _⟩ := J'.look
  obtain ⟨m, hF⟩ := I.fr
  refine PySem.W.cmp_K (op := .Eq) (tb := .ref C) sb.room.units0 hF I.ok.mod.kin J J'.type (by simp [PySem.W.notFirst]) hs hf ?_
  have hsp : spEqQ C [.ref a, .ref c] H (fun v H' => v = .bl b ∧ Ext H H') E0 := by
    refine ⟨H, (q, r), ⟨Ex.refl H, fun _ h => nomatch h⟩, .cons (IsQ.up ⟨a, dx, rfl, ha⟩) (.cons (IsQ.up ⟨c, dy, rfl, hb'⟩) .nil), trivial, fun v F' H' g u => ?_⟩
    have e : v = .bl (decide (q = r)) := u.here
    exact ⟨by rw [e, hz], fun x o h => g.k x o h (fun z => nomatch z)⟩
  have e0 : Env0 X.prog X.w X.K X.mg X.base A X.stack s H := by
    have e := I.env0
    exact ⟨by rw [sb.fr]; exact e.frames, e.mod, e.bs, e.bsz, e.funs, e.frf, e.hok, e.bare⟩
  have hl := F.len _ _ _ _ hsp
  have r2 : Vals [V.ref a, V.ref c] [Value.ref a, Value.ref c] := .cons rfl (.cons rfl .nil)
  refine wpAny_call (codeAny_mono (F.run A X.stack s H ⟨[.ref a, .ref c], []⟩ [.ref a, .ref c] [.ref a, .ref c] _ E0 sb.room e0 (by
    have := hb s [.ref a, .ref c] I.kIn (by simpa using hl)
    simpa using this) r2 hsp) fun r s' hq => ?_)
  cases r with
  | error e => exact (pass00 (X := X) (E' := E0)) pins σ H s e s' I hq
  | ok fl =>
    cases fl with
    | ret w =>
      obtain ⟨z, H', I', rz, ez, ex⟩ := I.after hq
      subst ez
      cases rz
      exact ⟨rfl, H', I', ex⟩
    | next => exact False.elim hq
    | brk => exact False.elim hq
    | cont => exact False.elim hq
def rEqD (D : EqB) : R2 := fun x y H Q => ∃ b, D x y H b ∧ ∀ H', Ext H H' → Q (.bl b) H'
theorem op_eqD {op : CmpOp} (h : RcD X n op D) (hr : Room n X.A) (ho : compareOp op = richCompare op := by rfl) : OpR X (compareOp op) (rEqD D) := by
  intro pins s σ H x y v u Q I rx ry hq
  obtain ⟨b, d, q⟩ := hq
  rw [ho]
  refine wpAny_mono (h X.A pins s σ H x y v u b ⟨hr, rfl⟩ I rx ry d) (fun r s' z => ?_) fun _ _ x => x
  obtain ⟨hr', H', I', e⟩ := z
  subst hr'
  exact ⟨.bl b, H', I', rfl, q H' e⟩
/-! ### from what is known of lists -/
theorem prsB_of {α : Type} [DecidableEq α] [Inhabited α] {R : α → V → Hp → Prop} {F H : Hp} (hD : ∀ x y v w, Up (R x) v F → Up (R y) w F → D v w H (decide (x = y))) {xs ys : List α} {vs ws : List V} (h : LsOf R xs vs F) (k : LsOf R ys ws F) : PrsB D vs ws H (fun i => decide (xs[i]! = ys[i]!)) := fun i v w hv hw => by
  have li : i < xs.length := by rw [h.len]; exact (List.getElem?_eq_some_iff.mp hv).1
  have lj : i < ys.length := by rw [k.len]; exact (List.getElem?_eq_some_iff.mp hw).1
  obtain ⟨v', e1, u1⟩ := h.get (List.getElem?_eq_getElem li)
  obtain ⟨w', e2, u2⟩ := k.get (List.getElem?_eq_getElem lj)
  rw [hv] at e1
  rw [hw] at e2
  cases e1
  cases e2
  show D v w H (decide (xs[i]! = ys[i]!))
  rw [getElem!_pos xs i li, getElem!_pos ys i lj]
  exact hD _ _ v w u1 u2
theorem eq_all {α : Type} [DecidableEq α] [Inhabited α] {xs ys : List α} (hl : xs.length = ys.length) : decide (xs = ys) = true ↔ ∀ j, j < xs.length → decide (xs[j]! = ys[j]!) = true := by
  rw [decide_eq_true_eq]
  constructor
  · intro e j _
    rw [e]; simp
  · intro h
    apply List.ext_getElem hl
    intro i h1 h2
    have := h i h1
    rw [decide_eq_true_eq, getElem!_pos xs i h1, getElem!_pos ys i h2] at this
    exact this
theorem dls_of {α : Type} [DecidableEq α] [Inhabited α] {R : α → V → Hp → Prop} {F H : Hp} (ex : Ex F H) (hD : ∀ x y v w, Up (R x) v F → Up (R y) w F → D v w H (decide (x = y))) {xs ys : List α} {v w : V} (h : IsL R xs v F) (k : IsL R ys w F) : DLs D v w H (decide (xs = ys)) := by
  obtain ⟨a, vs, rfl, ha, ua⟩ := h
  obtain ⟨c, ws, rfl, hc, uc⟩ := k
  have l1 := ua.here.len
  have l2 := uc.here.len
  refine ⟨a, c, vs, ws, rfl, rfl, ex _ _ ha, ex _ _ hc, fun hne => decide_eq_false fun e => hne ?_, fun e => ⟨_, prsB_of hD ua.here uc.here, ?_⟩⟩
  · rw [← l1, ← l2, e]
  · rw [← l1]
    exact eq_all (by omega)
theorem dq_of {C : Addr} {F H : Hp} (ex : Ex F H) {q r : Rat} {v w : V} (h : Up (IsQ C q) v F) (k : Up (IsQ C r) w F) : DQ C v w H (decide (q = r)) := by
  obtain ⟨a, dx, rfl, ha⟩ := h.here
  obtain ⟨c, dy, rfl, hc⟩ := k.here
  exact ⟨a, c, dx, dy, q, r, rfl, rfl, ex _ _ ha, ex _ _ hc, rfl⟩
theorem refs_ls {x y : V} {H : Hp} {b : Bool} (d : DLs D x y H b) : ∃ a c, x = .ref a ∧ y = .ref c := let ⟨a, c, _, _, hx, hy, _⟩ := d; ⟨a, c, hx, hy⟩
theorem refs_q {C : Addr} {x y : V} {H : Hp} {b : Bool} (d : DQ C x y H b) : ∃ a c, x = .ref a ∧ y = .ref c := let ⟨a, c, _, _, _, _, hx, hy, _⟩ := d; ⟨a, c, hx, hy⟩
theorem refs_tp {K : PySem.W.Frag} {x y : V} {H : Hp} {b : Bool} (d : DTp K D x y H b) : ∃ a c, x = .ref a ∧ y = .ref c := let ⟨a, c, _, _, _, hx, hy, _⟩ := d; ⟨a, c, hx, hy⟩
theorem gr_ext {pp : Option Addr} {F H H' : Hp} (ok : Ok pp F H) (e : Ext H H') : Gr pp F H F H' := ⟨Ex.refl F, fun x o h => e _ _ (ok.s _ _ h), fun x o h _ => e _ _ h, fun x o h => .inl h, fun x hx => by
  obtain ⟨q1, i, j, q2, q3⟩ := ok.p x hx
  exact ⟨q1, i, j, e _ _ q2, q3⟩⟩
end
end Gw
set_option maxHeartbeats 4000000
/-! list != [], whatever the items. -/
namespace GwE
open PySem PySem.SeqAt
open AutoSeq1 (wpAny_loadPart')
open MeetsSeq MeetsSeq2 MeetsSeq3 SeqRoads2
section
variable {prog : Program} {w : World} {A : Around} {R : Result → Shared → Prop}
theorem list_neL (l b : Addr) (items items2 : Array Value) (n n2 : Nat) (hne : (items.size != items2.size) = true) {s : Shared} (hl1 : s.heap.get? l = some { cls := .type "list", data := .seq items n }) (hb1 : s.heap.get? b = some { cls := .type "list", data := .seq items2 n2 })
    (h : R (.ok (.ret (.bool true))) s) : wpAny (model prog w) A.in1 (Builtin.«list.__ne__» ⟨[.ref l, .ref b], []⟩) (GQ.FinOf prog w A R) (fun e s' => R (.error e) s') s := by
  obtain ⟨hp, g, d, tk, os⟩ := s
  have f3 := AutoSeq1.sub_list_list
  wp_walk using wpAny_loadPart' hl1, wpAny_loadPart' hb1
  exact h
end
section
variable {prog : Program} {w : World} {A : Around} {E : Value → Shared → Prop} {s : Shared}
theorem rc_listNL {l b : Addr} {items items2 : Array Value} {n n2 : Nat} {Q : Value → Shared → Prop} (hu : A.units < cLine) (hne : (items.size != items2.size) = true) (hl1 : s.heap.get? l = some { cls := .type "list", data := .seq items n }) (hb1 : s.heap.get? b = some { cls := .type "list", data := .seq items2 n2 })
    (h : Q (.bool true) s) : wpAny (model prog w) A (richCompare .NotEq (.ref l) (.ref b)) Q E s := by
  refine wpAny_richCompare_same_room (op := .NotEq) ⟨_, hl1, rfl⟩ ⟨_, hb1, rfl⟩ F.slot_list_ne (GQ.call_here F.slot_list_ne ⟨_, hl1, rfl⟩ F.entry_list_ne (F.args_list_ne_2 _ _) ?_) hu
  exact list_neL (R := wants (fun v s' => v ≠ .notImplemented ∧ Q v s') E) l b items items2 n n2 hne hl1 hb1 ⟨(fun x => nomatch x), h⟩
end
end GwE
namespace Gw
open PySem PySem.Spec PyProof.Rows L2
/-- xs != [] -/
def rNeNil : R2 := fun x y H Q => ∃ a c xs, x = .ref a ∧ y = .ref c ∧ H a = some (.lst xs) ∧ H c = some (.lst []) ∧ Q (.bl (!xs.isEmpty)) H
theorem op_neNil {X : Cx} (hu : X.A.units < cLine) : OpR X (compareOp .NotEq) rNeNil := by
  intro pins s σ H x y v u Q I rx ry hq
  obtain ⟨a, c, xs, rfl, rfl, ha, hc, q⟩ := hq
  cases rx
  cases ry
  show wpAny (model X.prog X.w) X.A (richCompare .NotEq _ _) (EP X pins σ Q) X.xe s
  obtain ⟨zz, its, k, r, ee⟩ := I.hok a _ ha
  obtain ⟨z2, its2, k2, r2, e2⟩ := I.hok c _ hc
  cases r2
  cases xs with
  | nil =>
    cases r
    refine GwE.rc_listNE (N := 0) hu (fun _ => true) (fun _ s' => s' = s) (fun i s' q => ?_) (fun s' a q => ?_) (fun i s' hi => absurd hi (Nat.not_lt_zero _)) rfl
    · subst q
      exact ⟨_, _, k, k2, ee, e2, rfl, rfl, fun h1 h2 => absurd h1 (Nat.not_lt_zero _)⟩
    · subst q
      exact ⟨.bl false, H, I, rfl, q⟩
  | cons y ys =>
    cases r
    exact GwE.rc_listNL hu (by simp) ee e2 ⟨.bl true, H, I, rfl, q⟩
theorem rop_neE {α : Type} {pp : Option Addr} {Rx : α → V → Hp → Prop} {xs : List α} {R0 : List V → Hp → Prop} (h0 : ∀ vs F, R0 vs F → vs = []) : ROp pp rNeNil (IsL Rx xs) (LstOf R0) (IsB (!xs.isEmpty)) := fun x y F H Q ok u1 u2 k => by
  obtain ⟨a, vs, rfl, ha, u⟩ := u1.here
  obtain ⟨b, ws, rfl, hb, w⟩ := u2.here
  have e2 := h0 ws F w.here
  subst e2
  have hl := u.here.len
  refine ⟨a, b, vs, rfl, rfl, ok.s _ _ ha, ok.s _ _ hb, k _ F H ok.gr fun F' _ => ?_⟩
  show V.bl _ = V.bl _
  congr 2
  cases xs <;> cases vs <;> first | rfl | (simp at hl)
end Gw
set_option maxHeartbeats 1000000
/-! Lists and tuples of any values: isinstance, positions, slices with a step, == [], {}; a NUMBER at the right of a Ratio; str of an own object. -/
namespace GwE
open PySem PySem.SeqAt
open AutoSeq1 (wpAny_loadPart')
open MeetsSeq MeetsSeq2 MeetsSeq3 SeqRoads2
section
variable {prog : Program} {w : World} {A : Around} {R : Result → Shared → Prop}
theorem list_eqL2 (l b : Addr) (items items2 : Array Value) (n n2 : Nat) (hne : (items.size != items2.size) = true) {s : Shared} (hl1 : s.heap.get? l = some { cls := .type "list", data := .seq items n }) (hb1 : s.heap.get? b = some { cls := .type "list", data := .seq items2 n2 })
    (h : R (.ok (.ret (.bool false))) s) : wpAny (model prog w) A.in1 (Builtin.«list.__eq__» ⟨[.ref l, .ref b], []⟩) (GQ.FinOf prog w A R) (fun e s' => R (.error e) s') s := by
  obtain ⟨hp, g, d, tk, os⟩ := s
  have f3 := AutoSeq1.sub_list_list
  wp_walk using wpAny_loadPart' hl1, wpAny_loadPart' hb1
  exact h
end
section
variable {prog : Program} {w : World} {A : Around} {E : Value → Shared → Prop} {s : Shared}
theorem rc_listEL2 {l b : Addr} {items items2 : Array Value} {n n2 : Nat} {Q : Value → Shared → Prop} (hu : A.units < cLine) (hne : (items.size != items2.size) = true) (hl1 : s.heap.get? l = some { cls := .type "list", data := .seq items n }) (hb1 : s.heap.get? b = some { cls := .type "list", data := .seq items2 n2 })
    (h : Q (.bool false) s) : wpAny (model prog w) A (richCompare .Eq (.ref l) (.ref b)) Q E s := by
  refine wpAny_richCompare_same_room (op := .Eq) ⟨_, hl1, rfl⟩ ⟨_, hb1, rfl⟩ F.slot_list_eq (GQ.call_here F.slot_list_eq ⟨_, hl1, rfl⟩ F.entry_list_eq (F.args_list_eq_2 _ _) ?_) hu
  exact list_eqL2 (R := wants (fun v s' => v ≠ .notImplemented ∧ Q v s') E) l b items items2 n n2 hne hl1 hb1 ⟨(fun x => nomatch x), h⟩
end
end GwE
namespace Gw
open PySem PySem.Spec PyProof.Rows L2
/-- a list == [], the list not empty -/
def rEqNil : R2 := fun x y H Q => ∃ a c xs, x = .ref a ∧ y = .ref c ∧ H a = some (.lst xs) ∧ H c = some (.lst []) ∧ xs ≠ [] ∧ Q (.bl false) H
theorem op_eqNil {X : Cx} (hu : X.A.units < cLine) : OpR X (compareOp .Eq) rEqNil := by
  intro pins s σ H x y v u Q I rx ry hq
  obtain ⟨a, c, xs, rfl, rfl, ha, hc, hne, q⟩ := hq
  cases rx
  cases ry
  show wpAny (model X.prog X.w) X.A (richCompare .Eq _ _) (EP X pins σ Q) X.xe s
  obtain ⟨zz, its, k, r, ee⟩ := I.hok a _ ha
  obtain ⟨z2, its2, k2, r2, e2⟩ := I.hok c _ hc
  cases r2
  cases xs with
  | nil => exact absurd rfl hne
  | cons y ys =>
    cases r
    exact GwE.rc_listEL2 hu (by simp) ee e2 ⟨.bl false, H, I, rfl, q⟩
theorem rop_eqNe {α : Type} {pp : Option Addr} {Rx : α → V → Hp → Prop} {xs : List α} (hne : xs ≠ []) {R0 : List V → Hp → Prop} (h0 : ∀ vs F, R0 vs F → vs = []) : ROp pp rEqNil (IsL Rx xs) (LstOf R0) (IsB false) := fun x y F H Q ok u1 u2 k => by
  obtain ⟨a, vs, rfl, ha, u⟩ := u1.here
  obtain ⟨b, ws, rfl, hb, w⟩ := u2.here
  have e2 := h0 ws F w.here
  subst e2
  have hl := u.here.len
  refine ⟨a, b, vs, rfl, rfl, ok.s _ _ ha, ok.s _ _ hb, fun e => hne ?_, k _ F H ok.gr fun F' _ => rfl⟩
  subst e
  exact List.length_eq_zero_iff.mp hl
/-! ### kinds of any values -/
def tyD (C : Addr) : Dv → Value
  | .non => .type "NoneType"
  | .bl _ => .type "bool"
  | .int _ => .type "int"
  | .str _ => .type "str"
  | .q _ => .ref C
  | .em => .type "dict"
  | .lst _ => .type "list"
  | .tup _ => .type "tuple"
/-- what of the text isinstance asks -/
structure RatD (K : PySem.W.Frag) (C : Addr) : Prop where
  own : ∀ n ∈ ["NoneType", "bool", "int", "str", "dict", "list", "tuple"], PySem.W.kitOne K (.type n) (.ref C) = some false
  bi : ∀ n ∈ ["bool", "int", "str", "dict", "list", "tuple"], PySem.W.kitOne K (.ref C) (.type n) = some false
theorem tyx_D {K : PySem.W.Frag} {C : Addr} (T : RatF K C) {d : Dv} {v : V} {F H : Hp} (e : Ex F H) (h : IsDv C d v F) : TyX K H v (tyD C d) := by
  cases d with
  | non => rw [show v = V.non from h]; exact .base .non
  | bl b => rw [show v = V.bl b from h]; exact .base (.bl b)
  | int i => rw [show v = V.int i from h]; exact .base (.int i)
  | str s => rw [show v = V.str s from h]; exact .base (.str s)
  | q r => exact tyx_Q T (show IsQ C r v F from h) e
  | em => obtain ⟨a, rfl, ha⟩ := (show IsEm v F from h); exact .base (.dK (e _ _ ha))
  | lst l => obtain ⟨a, vs, rfl, ha, _⟩ := (show LstOf _ v F from h); exact .base (.lst (e _ _ ha))
  | tup l => obtain ⟨a, vs, rfl, ha, _⟩ := (show TupOf _ v F from h); exact .base (.tup (e _ _ ha))
def insD (n : String) : Dv → Bool
  | .bl _ => n == "bool" || n == "int"
  | .int _ => n == "int"
  | .str _ => n == "str"
  | .em => n == "dict"
  | .lst _ => n == "list"
  | .tup _ => n == "tuple"
  | _ => false
def isQD : Dv → Bool
  | .q _ => true
  | _ => false
section
variable {K : PySem.W.Frag} {C : Addr} {pp : Option Addr} {d : Dv}
theorem kit_D (T : RatD K C) {n : String} (hn : n ∈ ["bool", "int", "str", "dict", "list", "tuple"]) : PySem.W.kitOne K (tyD C d) (.type n) = some (insD n d) := by
  have hc : ∀ t b, kitB t n = some b → b = insD n d → tyD C d = .type t → PySem.W.kitOne K (tyD C d) (.type n) = some (insD n d) := fun t b h e1 e => by rw [e, ← e1]; exact kit_ty h
  simp only [List.mem_cons, List.not_mem_nil, or_false] at hn
  cases d with
  | q r => exact (T.bi n (by simp only [List.mem_cons, List.not_mem_nil, or_false]; exact hn))
  | non => rcases hn with rfl | rfl | rfl | rfl | rfl | rfl <;> first | exact hc "NoneType" true (by decide +kernel) rfl rfl | exact hc "NoneType" false (by decide +kernel) rfl rfl
  | bl b => rcases hn with rfl | rfl | rfl | rfl | rfl | rfl <;> first | exact hc "bool" true (by decide +kernel) rfl rfl | exact hc "bool" false (by decide +kernel) rfl rfl
  | int b => rcases hn with rfl | rfl | rfl | rfl | rfl | rfl <;> first | exact hc "int" true (by decide +kernel) rfl rfl | exact hc "int" false (by decide +kernel) rfl rfl
  | str b => rcases hn with rfl | rfl | rfl | rfl | rfl | rfl <;> first | exact hc "str" true (by decide +kernel) rfl rfl | exact hc "str" false (by decide +kernel) rfl rfl
  | em => rcases hn with rfl | rfl | rfl | rfl | rfl | rfl <;> first | exact hc "dict" true (by decide +kernel) rfl rfl | exact hc "dict" false (by decide +kernel) rfl rfl
  | lst b => rcases hn with rfl | rfl | rfl | rfl | rfl | rfl <;> first | exact hc "list" true (by decide +kernel) rfl rfl | exact hc "list" false (by decide +kernel) rfl rfl
  | tup b => rcases hn with rfl | rfl | rfl | rfl | rfl | rfl <;> first | exact hc "tuple" true (by decide +kernel) rfl rfl | exact hc "tuple" false (by decide +kernel) rfl rfl
theorem kit_DC (F : RatF K C) (T : RatD K C) : PySem.W.kitOne K (tyD C d) (.ref C) = some (isQD d) := by
  cases d with
  | q r => exact F.oo
  | non => exact T.own "NoneType" (by simp)
  | bl b => exact T.own "bool" (by simp)
  | int b => exact T.own "int" (by simp)
  | str b => exact T.own "str" (by simp)
  | em => exact T.own "dict" (by simp)
  | lst b => exact T.own "list" (by simp)
  | tup b => exact T.own "tuple" (by simp)
theorem isi_D (F : RatF K C) (T : RatD K C) {n : String} (hn : n ∈ ["bool", "int", "str", "dict", "list", "tuple"] := by simp) : RC pp (rIsi K) [IsDv C d, IsC (.ty n)] (IsB (insD n d)) := rc_isi (t := tyD C d) (.ty n) (kit_D T hn) fun v F' H e h => tyx_D F e h
theorem isi_DC (F : RatF K C) (T : RatD K C) : RC pp (rIsi K) [IsDv C d, IsC (.ref C)] (IsB (isQD d)) := rc_isi (t := tyD C d) (.own C) (kit_DC F T) fun v F' H e h => tyx_D F e h
def isSqD (d : Dv) : Bool := insD "list" d || insD "tuple" d
theorem isi_Dlt (F : RatF K C) (T : RatD K C) : RC pp (rIsiT K) [IsDv C d, TupOf (Args [IsC (.ty "list"), IsC (.ty "tuple")])] (IsB (isSqD d)) := by
  refine rc_isiT (t := tyD C d) (cs := [.ty "list", .ty "tuple"]) (us := [.type "list", .type "tuple"]) (.cons (.ty _) (.cons (.ty _) .nil)) ?_ (fun v F' H e h => tyx_D F e h)
  have k1 := kit_D (d := d) T (n := "list") (by simp)
  have k2 := kit_D (d := d) T (n := "tuple") (by simp)
  unfold isSqD
  cases e : insD "list" d with
  | true => rw [e] at k1; exact kitAny_cons (b := true) k1 (fun h => nomatch h) (fun _ => rfl)
  | false =>
    rw [e] at k1
    refine kitAny_cons (b := false) k1 (fun _ => ?_) (fun h => nomatch h)
    cases e2 : insD "tuple" d with
    | true => rw [e2] at k2; exact kitAny_cons (b := true) k2 (fun h => nomatch h) (fun _ => rfl)
    | false => rw [e2] at k2; exact kitAny_cons (b := false) k2 (fun _ => rfl) (fun h => nomatch h)
end
/-! ### what a value holds -/
def sqD : Dv → Option (List Dv)
  | .lst l => some l
  | .tup l => some l
  | _ => none
def numD : Dv → Option Rat
  | .int i => some ((i : Int) : Rat)
  | .q r => some r
  | _ => none
def isND (d : Dv) : Bool := (numD d).isSome
def nuV (d : Dv) : Rat := (numD d).getD 0
theorem isSqD_iff {d : Dv} : isSqD d = (sqD d).isSome := by cases d <;> rfl
theorem dv_sq {C : Addr} {d : Dv} {l : List Dv} (h : sqD d = some l) : ∀ v F, IsDv C d v F → IsSq (IsDv C) l v F := fun v F q => by
  cases d with
  | lst m => cases h; exact .inl (dv_l v F q)
  | tup m => cases h; exact .inr (dv_t v F q)
  | _ => cases h
theorem dv_nm {C : Addr} {d : Dv} (h : isND d = true) : ∀ v F, IsDv C d v F → IsNm C (nuV d) v F := fun v F q => by
  cases d with
  | int i => exact .inr ⟨i, rfl, q⟩
  | q r => exact .inl q
  | _ => cases h
theorem nm_dv {C : Addr} {q : Rat} : ∀ v F, IsNm C q v F → Som (fun d => isND d = true ∧ nuV d = q) (IsDv C) v F := fun v F h => by
  rcases h with h | ⟨i, rfl, h⟩
  · exact ⟨.q q, ⟨rfl, rfl⟩, h⟩
  · exact ⟨.int i, ⟨rfl, rfl⟩, h⟩
/-! ### at a slot, of a position -/
section
variable {X : Cx} {E : En} {G : List Sl} {st : List Stmt} {Rt : V → Hp → Hp → Prop} {N : List Sl → Prop} {R R' : V → Hp → Prop} {e a b : Expr} {pos p2 : Pos}
theorem js_slot {i : Nat} (h : G[i]? = some (.fz R)) (k : ∀ v F, R v F → R' v F) (q : PSs X st (tS E (G.set i (.fz R')) Rt N)) : PSs X st (tS E G Rt N) := PSs_imp q fun D σ H ⟨F, S, kn, kr⟩ => by
  refine ⟨F, S.weak (by rw [List.length_set]) (fun j s' hs => ?_), kn, kr⟩
  by_cases ej : j = i
  · subst ej
    rw [List.getElem?_set_self (List.getElem?_eq_some_iff.mp h).1] at hs
    cases hs
    exact ⟨_, h, .fz k⟩
  · rw [List.getElem?_set_ne (Ne.symm ej)] at hs
    exact ⟨s', hs, Le.rfl' s'⟩
theorem rop_ixSq {pp : Option Addr} {K : PySem.W.Frag} {α : Type} {Rx : α → V → Hp → Prop} {xs : List α} {j : Nat} {x : α} {i : Int} (h : xs[j]? = some x) (hi : i = (j : Int) := by rfl) : ROp pp (rIx K) (IsSq Rx xs) (IsI i) (Rx x) := fun y z F H Q ok u1 u2 k => by
  rcases u1.here with q | q
  · exact .inl (rop_ixL (K := K) h hi y z F H Q ok (LstOf.up q) u2 k)
  · obtain ⟨a, vs, rfl, ha, u⟩ := q
    obtain ⟨v, hv, uv⟩ := u.here.get h
    rw [u2.here]
    exact .inr (.inl ⟨a, vs, i, v, rfl, rfl, .inl (.inl (ok.s _ _ ha)), by rw [hi]; exact atI_nat hv, k v F H ok.gr uv⟩)
/-! ### slices with a step -/
def pkI (n : Nat) (lo hi st : Option Int) : List Nat := sliceRange (sliceBounds lo hi st n).1 (sliceBounds lo hi st n).2.1 (sliceBounds lo hi st n).2.2
def pkL {α : Type} (xs : List α) (lo hi st : Option Int) : List α := (pkI xs.length lo hi st).filterMap (xs[·]?)
theorem pkL_len {α : Type} (xs : List α) (lo hi st : Option Int) : (pkL xs lo hi st).length ≤ xs.length := by
  have h := slicePick_size_le (xs.map fun _ => Value.none).toArray lo hi st
  unfold slicePick at h
  rw [List.size_toArray, List.size_toArray, List.length_map] at h
  have e : ∀ l : List Nat, (l.filterMap (xs[·]?)).length = (l.filterMap ((xs.map fun _ => Value.none).toArray[·]?)).length := by
    intro l
    induction l with
    | nil => rfl
    | cons i l ih =>
      rw [List.filterMap_cons, List.filterMap_cons]
      rw [List.getElem?_toArray, List.getElem?_map]
      cases xs[i]? with
      | none => exact ih
      | some x => show _ + 1 = _ + 1; rw [ih]
  unfold pkL pkI
  rw [e]
  exact h
theorem pkL_mem {α : Type} {xs : List α} {lo hi st : Option Int} : ∀ x ∈ pkL xs lo hi st, x ∈ xs := fun x hx => by
  obtain ⟨i, _, h⟩ := List.mem_filterMap.mp hx
  exact List.mem_of_getElem? h
theorem paired_pk {α β : Type} {P : α → β → Prop} {xs : List α} {ys : List β} (p : Paired P xs ys) (lo hi st : Option Int) : Paired P (pkL xs lo hi st) (pkL ys lo hi st) := by
  have hl := Paired.length p
  unfold pkL
  rw [hl]
  generalize pkI ys.length lo hi st = l
  induction l with
  | nil => exact .nil
  | cons i l ih =>
    rw [List.filterMap_cons, List.filterMap_cons]
    cases e : xs[i]? with
    | none =>
      have : ys[i]? = none := by rw [List.getElem?_eq_none_iff] at e ⊢; omega
      rw [this]
      exact ih
    | some x =>
      obtain ⟨y, hy, q⟩ := paired_get p i x e
      rw [hy]
      exact .cons q ih
def tSlS (r : V → Option Int → Option Int → Option Int → Hp → VK → Prop) (te : TE) (tl th ts : TO) : TE := fun σ H Q => te σ H fun x H1 => tl σ H1 fun l H2 => th σ H2 fun u H3 => ts σ H3 fun z H4 => r x l u z H4 Q
def rSlS (K : PySem.W.Frag) : V → Option Int → Option Int → Option Int → Hp → VK → Prop := fun x lo hi st H Q => ∃ a xs, x = .ref a ∧ SqL K H a xs ∧ st ≠ some 0 ∧ ∀ p, H p = none → Q (.ref p) (upd H p (.lst (pkL xs lo hi st)))
theorem pe_sliceS {te : TE} {tl th ts : TO} {lo hi : Option Expr} {z : Expr} (he : PE X e te) (hl : PO X lo tl) (hu : PO X hi th) (hs : PO X (some z) ts) : PE X (.Subscript e (.Slice lo hi (some z) p2) pos) (tSlS (rSlS X.K) te tl th ts) := by
  refine ⟨fun pins s σ H Q I h => ?_⟩
  refine Subscript_ (thn (he.run pins s σ H _ I h) fun v s1 ⟨x, H1, I1, r1, q1⟩ => ?_)
  refine wpAny_Slice (thn (hl.run pins s1 σ H1 _ I1 q1) fun vl s2 ⟨l, H2, I2, pl, q2⟩ => thn (hu.run pins s2 σ H2 _ I2 q2) fun vu s3 ⟨u, H3, I3, pu, q3⟩ => thn (hs.run pins s3 σ H3 _ I3 q3) fun vs s4 ⟨zz, H4, I4, ps, q4⟩ => ?_)
  have I5 : Inv X pins σ H4 { s4 with heap := s4.heap.push { cls := .type "slice", data := .fields #[vl, vu, vs] } } := I4.kept (t' := s4.toks) fun b ob q => Heap.get?_push_of_some _ q
  obtain ⟨a, xs, rfl, hx, h0, q⟩ := q4
  cases r1
  obtain ⟨its, r, ht, hz⟩ := I5.list hx
  have hlen := r.length
  show wpAny (model X.prog X.w) X.A (subscriptTail e (.Slice lo hi (some z) p2) (.ref a) (.ref s4.heap.objs.size)) (EP X pins σ Q) X.xe { s4 with heap := s4.heap.push { cls := .type "slice", data := .fields #[vl, vu, vs] } }
  refine tail_any (ops := [.ref a, .ref s4.heap.objs.size]) ht.isList.typeIs slot_list_getitem.lookup ?_ (by with_unfolding_all rfl)
  refine wpAny_getItem_list_slice ht.isList (Heap.IsSliceOf.new ..) pl pu ps h0 ?_ (by rw [List.size_toArray]; omega)
  have hp : Vals (pkL xs l u zz) (slicePick its.toArray l u zz).toList := by
    unfold slicePick
    have := paired_pk r l u zz
    unfold pkL pkI at this ⊢
    rw [← hlen] at this
    rw [List.size_toArray, ← hlen]
    simpa using this
  refine ⟨.ref _, _, I5.laid (t' := s4.toks) (o := .lst (pkL xs l u zz)) (fun b ob q => Heap.get?_push_of_some _ q) (Nat.le_refl _) ?_, rfl, q _ (I5.hok.fresh (Nat.le_refl _))⟩
  exact ⟨Nat.le_trans (pkL_len xs l u zz) (by omega), _, 0, hp, Heap.get?_push_size _ rfl⟩
theorem jm_sliceS {K : PySem.W.Frag} {α : Type} {Rx : α → V → Hp → Prop} {xs : List α} {lo hi : Option Int} {st : Int} (h0 : st ≠ 0) (p : PE X e (tSlS (rSlS K) (tE E G (IsL Rx xs)) (tO E G lo) (tO E G hi) (tO E G (some st)))) : PE X e (tM E G (LsOf Rx (pkL xs lo hi (some st)))) := PE_imp p fun σ H Q ⟨F, S, k⟩ =>
  ⟨F, S, fun x F1 H1 g1 u1 => ⟨F1, S.gr g1, fun F2 H2 g2 => ⟨F2, S.gr (g1.trans g2), fun F3 H3 g3 => ⟨F3, S.gr ((g1.trans g2).trans g3), fun F4 H4 g4 => by
    obtain ⟨a, vs, rfl, ha, u⟩ := u1.here
    refine ⟨a, vs, rfl, .inl (.inl (g4.s _ _ (g4.f _ _ (g3.f _ _ (g2.f _ _ ha))))), by simpa using h0, fun p hp => ?_⟩
    have g := ((g1.trans g2).trans g3).trans g4
    exact k p _ F4 _ (g.trans (Gr.raw g.ok hp)) (g.back hp) (g.s.back hp) upd_same ((LsOf.up (paired_pk u.here lo hi (some st))).mono (((g2.trans g3).trans g4).f))⟩⟩⟩⟩
theorem je_em : PE X (.Dict [] [] pos) (tE E G IsEm) := PE_imp pe_dnewK fun σ H Q ⟨F, S, k⟩ p hp => k (.ref p) (upd F p (.dK [])) (upd H p (.dK [])) (Gr.new S.ok hp) fun F2 e2 => ⟨p, rfl, e2 _ _ upd_same⟩
/-! ### a NUMBER at the right -/
variable {C : Addr} {q r : Rat} {op : Operator} {k : Nat} {pre : Rat × Rat → Prop} {fn : Rat → Rat → Rat}
theorem joQN (T : Opr X.prog X.w X.K X.mg X.base C op k pre fn) (hr : Room k X.A) (ha : PE X a (tE E G (IsQ C q))) (hb : PE X b (tE E G (IsNm C r))) (hp : pre (q, r)) (hR : IsQ C (fn q r) = R := by exact rfl) : PE X (.BinOp a op b pos) (tE E G R) := by
  subst hR
  obtain ⟨f, g, fd, O, ok, bd⟩ := T
  refine je_op (pe_op (opR_or (op_own (E' := E0) O.toOwnB ok hr bd) (op_ownI (E' := E0) O ok hr bd)) ha hb) (fun x y F H Q okk u1 u2 kq => ?_)
  rcases u2.here with h | ⟨i, rfl, h⟩
  · exact .inl (rop_own (C := C) (q := q) (r := r) (Rf := fun w => IsQ C (fn w.1 w.2)) (pre := pre) hp x y F H Q okk u1 h.up kq)
  · exact .inr (rop_ownI (C := C) (q := q) (i := i) (Rf := fun w => IsQ C (fn w.1 w.2)) (pre := pre) hp x y F H Q okk u1 (fun _ _ => h) kq)
end
/-! ### str of an own object -/
def StrK (P : Program) (w : World) (K : PySem.W.Frag) (mg : Str → Option Value) (base : Heap) (C : Addr) (k : Nat) (pre : Rat → Prop) (qt : Rat → Str) : Prop :=
  ∃ (f : Addr) (fd : FuncData), PySem.W.findIn K (.ref C) "__str__" = some (some (.ref f)) ∧ PySem.W.isFn K (.ref f) = true ∧ Binds K fd ["self"] [] ∧ FnOk P w K mg base CX0 k f fd ["self"] (Pr (fun q : Rat => [IsQ C q]) pre fun q => IsS (qt q))
section
variable {X : Cx} {C : Addr} {k : Nat} {pre : Rat → Prop} {qt : Rat → Str}
def rStrQ (C : Addr) (pre : Rat → Prop) (qt : Rat → Str) : List V → Hp → VK → Prop := fun xs H Q => ∃ (F : Hp) (q : Rat) (v : V), xs = [v] ∧ pre q ∧ Ok none F H ∧ Up (IsQ C q) v F ∧ ∀ v' F' H', Gr none F H F' H' → v' = .str (qt q) → Q v' H'
theorem call_strQ (T : StrK X.prog X.w X.K X.mg X.base C k pre qt) (hr : Room (k + 2) X.A) : CallR X (.type "str") (rStrQ C pre qt) := by
  intro pins s σ H xs us Q I rv h
  obtain ⟨f, fd, hs, hf, hb, ok⟩ := T
  obtain ⟨F, q, v, rfl, hp, okk, u, kq⟩ := h
  cases rv with
  | cons r0 rt =>
    cases rt
    obtain ⟨a, dx, rfl, ha⟩ := u.here
    cases (show _ = Value.ref a from r0)
    obtain ⟨_, _, J⟩ := ins_inst I (okk.s _ _ ha)
    have hu : X.A.in1.in1.units < cLine := by have := hr.un; show X.A.units + 1 + 1 < _; omega
    refine PySem.W.kso_call hu I.kIn J hs hf ?_
    have hl : ([Value.ref a] ++ []).length = (["self"] : List Str).length := rfl
    refine wpAny_call (codeAny_mono (ok.run X.A.in1.in1 X.stack s H ⟨[.ref a], []⟩ [.ref a] [.ref a] (fun v' H' => v' = .str (qt q) ∧ Q v' H') E0 hr.in1.in1 I.env0.in1.in1 (by
      have := hb s [.ref a] I.kIn hl
      rwa [List.append_nil] at this) (.cons rfl .nil) ⟨F, q, okk, .cons u .nil, hp, fun v' F' H' g u' => ⟨u'.here, kq v' F' H' g u'.here⟩⟩) fun rr s' hq => ?_)
    cases rr with
    | error er => exact False.elim hq
    | ok fl =>
      cases fl with
      | ret w =>
        obtain ⟨z, H', I', rz, q2, q1⟩ := I.after (Q := fun v' H' => v' = .str (qt q) ∧ Q v' H') hq
        subst q2
        obtain ⟨tk, rfl⟩ : ∃ tk, w = Value.str (qt q) tk := rz
        exact ⟨.str (qt q), H', I', ⟨tk, rfl⟩, q1⟩
      | next => exact False.elim hq
      | brk => exact False.elim hq
      | cont => exact False.elim hq
end
end Gw
set_option maxHeartbeats 4000000
namespace Gw
open PySem PySem.Spec PyProof.Rows L2

/-- the names of the text that are no defs -/
structure Glo (K : PySem.W.Frag) (mg : Str → Option Value) (C : Addr) : Prop where
  isi : mg "isinstance" = none
  int : mg "int" = none
  bool : mg "bool" = none
  list : mg "list" = none
  tuple : mg "tuple" = none
  len : mg "len" = none
  all : mg "all" = none
  any : mg "any" = none
  sum : mg "sum" = none
  zip : mg "zip" = none
  enum : mg "enumerate" = none
  range : mg "range" = none
  abs : mg "abs" = none
  max : mg "max" = none
  divmod : mg "divmod" = none
  gcd : mg "gcd" = some (.builtin "math.gcd")
  rat : mg "Ratio" = some (.ref C)
  parts : ∃ t, mg "MOST_PARTS" = some (.int 4 t)
  part : ∃ t, mg "PART" = some (.int (10 ^ 60) t)
  min : mg "min" = none
  sorted : mg "sorted" = none
  repr : mg "repr" = none
  str : mg "str" = none
  F : RatF K C
  D : RatD K C
theorem isi_int {K : PySem.W.Frag} {pp : Option Addr} {i : Int} {n : String} {b : Bool} (h : kitB "int" n = some b) : RC pp (rIsi K) [IsI i, IsC (.ty n)] (IsB b) := rc_isi (t := .type "int") (.ty n) (kit_ty h) fun v F H e h => by
  rw [show v = V.int i from h]
  exact tyx_int
theorem isi_Q {K : PySem.W.Frag} {pp : Option Addr} {q : Rat} {C : Addr} {u : Value} {c : V} {b : Bool} (F : RatF K C) (hc : ClsV c u) (h : PySem.W.kitOne K (.ref C) u = some b) : RC pp (rIsi K) [IsQ C q, IsC c] (IsB b) := rc_isi (t := .ref C) hc h fun v F' H e h => tyx_Q F h e
theorem isi_IQ {K : PySem.W.Frag} {pp : Option Addr} {i : Int} {C : Addr} (F : RatF K C) : RC pp (rIsi K) [IsI i, IsC (.ref C)] (IsB false) := rc_isi (t := .type "int") (.own C) F.io fun v F' H e h => by
  rw [show v = V.int i from h]
  exact tyx_int
theorem mulW_of {i j : Int} {n m : Nat} (hi : i.natAbs < 2 ^ n) (hj : j.natAbs < 2 ^ m) (hn : 0 < n) (hm : 0 < m) (h : n + m ≤ 1000000) : CMulW i j := wide_mul hi hj hn hm h
theorem fits_m1 {q r : Rat} (h : Fits q r) : CMulW q.num (r.den : Int) := mulW_of (n := 20000) (m := 9000) h.2.1 (by rw [Int.natAbs_natCast]; exact h.d2) (by decide) (by decide) (by decide)
theorem fits_m2 {q r : Rat} (h : Fits q r) : CMulW r.num (q.den : Int) := mulW_of (n := 20000) (m := 9000) h.2.2 (by rw [Int.natAbs_natCast]; exact h.d1) (by decide) (by decide) (by decide)
theorem fits_m3 {q r : Rat} (h : Fits q r) : CMulW (q.den : Int) (r.den : Int) := mulW_of (n := 9000) (m := 9000) (by rw [Int.natAbs_natCast]; exact h.d1) (by rw [Int.natAbs_natCast]; exact h.d2) (by decide) (by decide) (by decide)
theorem fits_m4 {q r : Rat} (h : Fits q r) : CMulW q.num r.num := mulW_of (n := 20000) (m := 20000) h.2.1 h.2.2 (by decide) (by decide) (by decide)
theorem fits_ht {q r : Rat} (h : Fits q r) : Ht ((q.den : Int) * (r.den : Int)) := by
  refine ⟨Int.mul_ne_zero (q_den0 q) (q_den0 r), ?_⟩
  rw [Int.natAbs_mul, Int.natAbs_natCast, Int.natAbs_natCast]
  exact log2_lt (by decide) h.1
theorem fitsO_m1 {q r : Rat} (h : FitsO q r) : CMulW q.num (r.den : Int) := mulW_of (n := 20000) (m := 20000) h.2.2.1 (by rw [Int.natAbs_natCast]; exact h.2.2.2) (by decide) (by decide) (by decide)
theorem fitsO_d {q r : Rat} (h : FitsO q r) : q.den < 2 ^ 9000 ∧ r.num.natAbs < 2 ^ 9000 := by
  have hn : 0 < r.num.natAbs := by
    have : r.num ≠ 0 := fun e => h.1 (Rat.num_eq_zero.mp e)
    omega
  exact ⟨Nat.lt_of_le_of_lt (Nat.le_mul_of_pos_right _ hn) h.2.1, Nat.lt_of_le_of_lt (Nat.le_mul_of_pos_left _ q.den_pos) h.2.1⟩
theorem fitsO_m2 {q r : Rat} (h : FitsO q r) : CMulW (q.den : Int) r.num := mulW_of (n := 9000) (m := 9000) (by rw [Int.natAbs_natCast]; exact (fitsO_d h).1) (fitsO_d h).2 (by decide) (by decide) (by decide)
theorem fitsO_ht {q r : Rat} (h : FitsO q r) : Ht ((q.den : Int) * r.num) := by
  refine ⟨Int.mul_ne_zero (q_den0 q) (fun e => h.1 (Rat.num_eq_zero.mp e)), ?_⟩
  rw [Int.natAbs_mul, Int.natAbs_natCast]
  exact log2_lt (by decide) h.2.1
section
variable {P : Program} {w : World} {K : PySem.W.Frag} {mg : Str → Option Value} {base : Heap} {C : Addr}
/-! ### basics -/
abbrev rs_is_integer (C : Addr) : Int ⊕ Rat → List (V → Hp → Prop) := fun w => match w with
  | .inl i => [IsI i]
  | .inr q => [IsQ C q]
abbrev sp_is_integer (C : Addr) : Sp := Pr (rs_is_integer C) (fun _ => True) (fun w => IsB w.isLeft)
abbrev Kn_is_integer (P : Program) (w : World) (K : PySem.W.Frag) (mg : Str → Option Value) (base : Heap) (C : Addr) : Prop := Kn P w K mg base "is_integer" 1 ["value"] (sp_is_integer C)
theorem ok_is_integer (Z : Glo K mg C)  {f : Addr} {fd : FuncData} (Fd : FnP K "is_integer" st_is_integer f fd) : FnOk P w K mg base CX0 1 f fd ["value"] (sp_is_integer C) := by
  refine fn_pr Fd sc_is_integer (fun u => by first | rfl | (cases u <;> rfl)) (fun _ => False) (fun _ _ h => h.elim) (fun X u E hX hp hE => ?_)
  obtain ⟨cdv, A, outer, s, H, E', rfl, hr⟩ := hX
  refine PSs.nox ?_
  have nd := (sc_is_integer).nd
  replace hr : Room 0 (cxOf CX0 P w K mg base N_is_integer "is_integer" (defScope st_is_integer) f cdv A outer s H E').nox.A := hr
  cases u with
  | inl i =>
    exact js_one (js_ret (je_eq (je_and (b1 := true) (b2 := true) (jbB call_isi Z.isi boot_isinstance (ja_cons (jv 0 (R := IsI i)) (ja_cons (jty Z.int boot_int) ja_nil)) (isi_int (by decide +kernel))) fun _ => pe_one (je_not (b1 := false)
      (jbB call_isi Z.isi boot_isinstance (ja_cons (jv 0 (R := IsI i)) (ja_cons (jty Z.bool boot_bool) ja_nil)) (isi_int (by decide +kernel))))) rfl))
  | inr q =>
    refine js_one (js_ret (je_eq (je_and (b1 := false) (b2 := true) (jbB call_isi Z.isi boot_isinstance (ja_cons (jv 0 (R := IsQ C q)) (ja_cons (jty Z.int boot_int) ja_nil)) (isi_Q Z.F (.ty "int") Z.F.oi)) (fun h => nomatch h)) rfl))
abbrev sp_divisor_of (_ : Addr) : Sp := Pr (ι := Int × Int) (fun w => [IsI w.1, IsI w.2]) (fun _ => True) (fun w => IsI ((Nat.gcd w.1.natAbs w.2.natAbs : Nat) : Int))
abbrev Kn_divisor_of (P : Program) (w : World) (K : PySem.W.Frag) (mg : Str → Option Value) (base : Heap) (C : Addr) : Prop := Kn P w K mg base "divisor_of" 1 ["one", "other"] (sp_divisor_of C)
theorem ok_divisor_of (Z : Glo K mg C)  {f : Addr} {fd : FuncData} (Fd : FnP K "divisor_of" st_divisor_of f fd) : FnOk P w K mg base CX0 1 f fd ["one", "other"] (sp_divisor_of C) := by
  refine fn_pr Fd sc_divisor_of (fun u => by first | rfl | (cases u <;> rfl)) (fun _ => False) (fun _ _ h => h.elim) (fun X u E hX hp hE => ?_)
  obtain ⟨cdv, A, outer, s, H, E', rfl, hr⟩ := hX
  refine PSs.nox ?_
  have nd := (sc_divisor_of).nd
  replace hr : Room 0 (cxOf CX0 P w K mg base N_divisor_of "divisor_of" (defScope st_divisor_of) f cdv A outer s H E').nox.A := hr
  exact js_one (js_ret (jbF cr_gcd Z.gcd (ja_cons (jv 0) (ja_cons (jv 1) ja_nil)) rc_gcd))
/-! ### Ratio -/
abbrev sp_R__init__ (C : Addr) : Sp := InitSp C
theorem ok_R__init__ (Z : Glo K mg C) (k_is_integer : Kn_is_integer P w K mg base C) (k_divisor_of : Kn_divisor_of P w K mg base C) {f : Addr} {fd : FuncData} (Fd : FunD K "__init__" "Ratio.__init__" (defArgs st_R__init__) (defBody st_R__init__) (defScope st_R__init__) [V.int 1] [] f fd) : FnOk P w K mg base CX0 2 f fd ["self", "top", "bottom"] (sp_R__init__ C) := by
  refine fn_init Fd sc_R__init__ rfl (fun X E x dx t b hX hp => ?_)
  obtain ⟨cdv, A, outer, s, H, E', rfl, hr⟩ := hX
  refine PSs.nox ?_
  have nd := (sc_R__init__).nd
  replace hr : Room 1 (cxOf CX0 P w K mg base N_R__init__ "Ratio.__init__" (defScope st_R__init__) f cdv A outer s H E').nox.A := hr
  have hg := log2_mono (iniC_le t b hp.1)
  have e1 : qFs (Rat.divInt t b) = [(kTop, .int (t.fdiv (iniC t b))), (kBot, .int (b.fdiv (iniC t b)))] := by
    rw [ini_top t b hp.1, ini_bot t b hp.1]
    rfl
  rw [e1]
  refine js_initS (js_if (b1 := false) (jt_not (b1 := true) (jt_val (pt_val (jc k_is_integer hr (.inl t) (ja_cons (jv 1) ja_nil) trivial)))) (fun h => nomatch h) (fun _ => js_nil rfl)) ?_
  refine js_initS (js_if (b1 := false) (PW.pt (jw_or (b1 := false) (b2 := false) (jt_not (b1 := true) (jt_val (pt_val (jc k_is_integer hr (.inl b) (ja_cons (jv 2) ja_nil) trivial)))) fun _ => jw_or1 (jt_eq (jt_cmp (pt_cmpR op_eq (jv 2 (R := IsI b)) jI (nomark _)) rop_eqI) (decide_eq_false hp.1)))) (fun h => nomatch h) (fun _ => js_nil rfl)) ?_
  refine js_initS (js_set (R := IsI ((Nat.gcd t.natAbs b.natAbs : Nat) : Int)) (ps_set (i := 3) nd rfl (.inl rfl) (jc k_divisor_of hr (t, b) (ja_cons (jv 1) (ja_cons (jv 2) ja_nil)) trivial))) ?_
  refine js_initS (G1 := G0 [IsC (.ref x), IsI t, IsI b, IsI (iniC t b)] 4) (js_if (b1 := decide (b < 0)) (jt_cmp (pt_cmpR op_lt (jv 2) jI (nomark _)) rop_lt) (fun h => js_one (js_N (js_set (R := IsI (iniC t b)) (ps_set (i := 3) nd rfl (.inl rfl) (je_eq (je_op (pe_op op_sub jI (jv 3)) rop_sub) ?_))) ?_)) (fun h => js_nil ?_)) ?_
  · unfold iniC
    rw [if_pos (of_decide_eq_true h)]
  · rintro G' rfl
    rfl
  · unfold iniC
    rw [if_neg (of_decide_eq_false h)]
    rfl
  · refine js_initE Z.F (fun i s h => ?_) rfl (je_op (pe_op op_fdW (jv 1) (jv 3)) (rop_fdW ⟨iniC_ne t b hp.1, Nat.lt_of_le_of_lt hg hp.2⟩)) (fun E => je_op (pe_op op_fdW (jv 2) (jv 3)) (rop_fdW ⟨iniC_ne t b hp.1, Nat.lt_of_le_of_lt hg hp.2⟩)) (pv 0) (pv 0)
    match i with
    | 0 => exact .inr ⟨_, (Option.some.inj h).symm⟩
    | 1 => exact .inr ⟨_, (Option.some.inj h).symm⟩
    | 2 => exact .inr ⟨_, (Option.some.inj h).symm⟩
    | 3 => exact .inr ⟨_, (Option.some.inj h).symm⟩
    | n + 4 => cases h
abbrev sp_Rsign (C : Addr) : Sp := Pr (ι := Rat) (fun q => [IsQ C q]) (fun _ => True) (fun q => IsI q.num.sign)
theorem ok_Rsign (Z : Glo K mg C)  {f : Addr} {fd : FuncData} (Fd : FnM K "sign" "Ratio.sign" st_Rsign f fd) : FnOk P w K mg base CX0 1 f fd ["self"] (sp_Rsign C) := by
  refine fn_pr Fd sc_Rsign (fun u => by first | rfl | (cases u <;> rfl)) (fun _ => False) (fun _ _ h => h.elim) (fun X u E hX hp hE => ?_)
  obtain ⟨cdv, A, outer, s, H, E', rfl, hr⟩ := hX
  refine PSs.nox ?_
  have nd := (sc_Rsign).nd
  replace hr : Room 0 (cxOf CX0 P w K mg base N_Rsign "Ratio.sign" (defScope st_Rsign) f cdv A outer s H E').nox.A := hr
  refine js_one (js_ret (je_eq (je_op (pe_op op_sub (jbT call_int1 Z.int boot_int (ja_cons (je_op (pe_cmpR op_gt (je_top Z.F (jv 0)) jI (nomark _)) rop_gt) ja_nil) rc_int) (jbT call_int1 Z.int boot_int (ja_cons (je_op (pe_cmpR op_lt (je_top Z.F (jv 0)) jI (nomark _)) rop_lt) ja_nil) rc_int)) rop_sub) ?_))
  rw [q_sgn]
abbrev sp_Rtop (C : Addr) : Sp := Pr (ι := Rat) (fun q => [IsQ C q]) (fun _ => True) (fun q => IsI q.num)
theorem ok_Rtop (Z : Glo K mg C)  {f : Addr} {fd : FuncData} (Fd : FnM K "top" "Ratio.top" st_Rtop f fd) : FnOk P w K mg base CX0 1 f fd ["self"] (sp_Rtop C) := by
  refine fn_pr Fd sc_Rtop (fun u => by first | rfl | (cases u <;> rfl)) (fun _ => False) (fun _ _ h => h.elim) (fun X u E hX hp hE => ?_)
  obtain ⟨cdv, A, outer, s, H, E', rfl, hr⟩ := hX
  refine PSs.nox ?_
  have nd := (sc_Rtop).nd
  replace hr : Room 0 (cxOf CX0 P w K mg base N_Rtop "Ratio.top" (defScope st_Rtop) f cdv A outer s H E').nox.A := hr
  exact js_one (js_ret (je_top Z.F (jv 0)))
abbrev sp_told_pair (C : Addr) : Sp := Pr (ι := Rat) (fun q => [IsNm C q]) (fun _ => True) (fun q => IsTp [IsI q.num, IsI (q.den : Int)])
abbrev Kn_told_pair (P : Program) (w : World) (K : PySem.W.Frag) (mg : Str → Option Value) (base : Heap) (C : Addr) : Prop := Kn P w K mg base "told_pair" 2 ["value"] (sp_told_pair C)
theorem ok_told_pair (Z : Glo K mg C) (k_is_integer : Kn_is_integer P w K mg base C) {f : Addr} {fd : FuncData} (Fd : FnP K "told_pair" st_told_pair f fd) : FnOk P w K mg base CX0 2 f fd ["value"] (sp_told_pair C) := by
  refine fn_pr Fd sc_told_pair (fun u => by first | rfl | (cases u <;> rfl)) (fun _ => False) (fun _ _ h => h.elim) (fun X u E hX hp hE => ?_)
  obtain ⟨cdv, A, outer, s, H, E', rfl, hr⟩ := hX
  refine PSs.nox ?_
  have nd := (sc_told_pair).nd
  replace hr : Room 1 (cxOf CX0 P w K mg base N_told_pair "told_pair" (defScope st_told_pair) f cdv A outer s H E').nox.A := hr
  rename Rat => q
  refine js_or (i := 0) (R1 := IsQ C q) (R2 := fun v F => ∃ i : Int, q = (i : Rat) ∧ v = .int i) rfl (fun v F F' h e => h.mono e) (fun v F F' h e => h) ?_ ?_
  · exact js_cons (N1 := fun _ => False) (js_if (b1 := true) (jt_val (pt_val (jbB call_isi Z.isi boot_isinstance (ja_cons (jv 0) (ja_cons (jglob (v := .ref C) Z.rat rfl) ja_nil)) (isi_Q (q := q) Z.F (.own C) Z.F.oo)))) (fun _ =>
      js_one (js_ret (je_tup (pe_tup (ja_cons (je_top Z.F (jv 0)) (ja_cons (je_bot Z.F (jv 0)) ja_nil)))))) (fun h => nomatch h)) (fun _ h => h.elim)
  · refine js_open (i := 0) (P := fun i : Int => q = (i : Rat)) (R := fun i => IsI i) (G := [.fz (Som (fun i : Int => q = (i : Rat)) fun i => IsI i)]) rfl (fun i v F F' h e => h) (fun i hi => ?_)
    subst hi
    refine js_seq (G1 := G0 [IsI i] 1) (js_if (b1 := false) (jt_val (pt_val (jbB call_isi Z.isi boot_isinstance (ja_cons (jv 0) (ja_cons (jglob (v := .ref C) Z.rat rfl) ja_nil)) (isi_IQ (i := i) Z.F)))) (fun h => nomatch h) (fun _ => js_nil rfl)) ?_
    refine js_seq (G1 := G0 [IsI i] 1) (js_if (b1 := false) (jt_not (b1 := true) (jt_val (pt_val (jc k_is_integer hr (.inl i) (ja_cons (jv 0) ja_nil) trivial)))) (fun h => nomatch h) (fun _ => js_nil rfl)) ?_
    exact js_one (js_ret (je_eq (je_tup (pe_tup (ja_cons (jv 0) (ja_cons jI ja_nil)))) rfl))
abbrev sp_R__add__ (C : Addr) : Sp := Pr (qA C) (fun w => Fits w.1 w.2) (fun w => IsQ C (w.1 + w.2))
theorem ok_R__add__ (Z : Glo K mg C) (mk : Mkr P w K mg base C 2) (k_told_pair : Kn_told_pair P w K mg base C) {f : Addr} {fd : FuncData} (Fd : FnM K "__add__" "Ratio.__add__" st_R__add__ f fd) : FnOk P w K mg base CX0 6 f fd ["self", "other"] (sp_R__add__ C) := by
  refine fn_pr Fd sc_R__add__ (fun u => by first | rfl | (cases u <;> rfl)) (fun _ => False) (fun _ _ h => h.elim) (fun X u E hX hp hE => ?_)
  obtain ⟨cdv, A, outer, s, H, E', rfl, hr⟩ := hX
  refine PSs.nox ?_
  have nd := (sc_R__add__).nd
  replace hr : Room 5 (cxOf CX0 P w K mg base N_R__add__ "Ratio.__add__" (defScope st_R__add__) f cdv A outer s H E').nox.A := hr
  obtain ⟨q, r⟩ := u
  have hp : Fits q r := hp
  refine js_seq (js_asg (ps_asg (jc k_told_pair (hr.mono (by decide)) r (ja_cons (jv 1) ja_nil) trivial) (jg2 2 3 nd))) ?_
  refine js_one (js_ret (je_eq (jmk2 mk (hr.mono (by decide)) (ja_cons (je_op (pe_op op_add (je_op (pe_op op_mulW (je_top Z.F (jv 0)) (jv 3)) (rop_mulW (fits_m1 hp))) (je_op (pe_op op_mulW (jv 2) (je_bot Z.F (jv 0))) (rop_mulW (fits_m2 hp)))) rop_add) (ja_cons (je_op (pe_op op_mulW (je_bot Z.F (jv 0)) (jv 3)) (rop_mulW (fits_m3 hp))) ja_nil)) (fits_ht hp)) ?_))
  rw [q_add]
abbrev sp_R__sub__ (C : Addr) : Sp := Pr (qA C) (fun w => Fits w.1 w.2) (fun w => IsQ C (w.1 - w.2))
theorem ok_R__sub__ (Z : Glo K mg C) (mk : Mkr P w K mg base C 2) (k_told_pair : Kn_told_pair P w K mg base C) {f : Addr} {fd : FuncData} (Fd : FnM K "__sub__" "Ratio.__sub__" st_R__sub__ f fd) : FnOk P w K mg base CX0 6 f fd ["self", "other"] (sp_R__sub__ C) := by
  refine fn_pr Fd sc_R__sub__ (fun u => by first | rfl | (cases u <;> rfl)) (fun _ => False) (fun _ _ h => h.elim) (fun X u E hX hp hE => ?_)
  obtain ⟨cdv, A, outer, s, H, E', rfl, hr⟩ := hX
  refine PSs.nox ?_
  have nd := (sc_R__sub__).nd
  replace hr : Room 5 (cxOf CX0 P w K mg base N_R__sub__ "Ratio.__sub__" (defScope st_R__sub__) f cdv A outer s H E').nox.A := hr
  obtain ⟨q, r⟩ := u
  have hp : Fits q r := hp
  refine js_seq (js_asg (ps_asg (jc k_told_pair (hr.mono (by decide)) r (ja_cons (jv 1) ja_nil) trivial) (jg2 2 3 nd))) ?_
  refine js_one (js_ret (je_eq (jmk2 mk (hr.mono (by decide)) (ja_cons (je_op (pe_op op_sub (je_op (pe_op op_mulW (je_top Z.F (jv 0)) (jv 3)) (rop_mulW (fits_m1 hp))) (je_op (pe_op op_mulW (jv 2) (je_bot Z.F (jv 0))) (rop_mulW (fits_m2 hp)))) rop_sub) (ja_cons (je_op (pe_op op_mulW (je_bot Z.F (jv 0)) (jv 3)) (rop_mulW (fits_m3 hp))) ja_nil)) (fits_ht hp)) ?_))
  rw [q_sub]
abbrev sp_R__rsub__ (C : Addr) : Sp := Pr (qA C) (fun w => Fits w.1 w.2) (fun w => IsQ C (w.2 - w.1))
theorem ok_R__rsub__ (Z : Glo K mg C) (mk : Mkr P w K mg base C 2) (k_told_pair : Kn_told_pair P w K mg base C) {f : Addr} {fd : FuncData} (Fd : FnM K "__rsub__" "Ratio.__rsub__" st_R__rsub__ f fd) : FnOk P w K mg base CX0 6 f fd ["self", "other"] (sp_R__rsub__ C) := by
  refine fn_pr Fd sc_R__rsub__ (fun u => by first | rfl | (cases u <;> rfl)) (fun _ => False) (fun _ _ h => h.elim) (fun X u E hX hp hE => ?_)
  obtain ⟨cdv, A, outer, s, H, E', rfl, hr⟩ := hX
  refine PSs.nox ?_
  have nd := (sc_R__rsub__).nd
  replace hr : Room 5 (cxOf CX0 P w K mg base N_R__rsub__ "Ratio.__rsub__" (defScope st_R__rsub__) f cdv A outer s H E').nox.A := hr
  obtain ⟨q, r⟩ := u
  have hp : Fits q r := hp
  refine js_seq (js_asg (ps_asg (jc k_told_pair (hr.mono (by decide)) r (ja_cons (jv 1) ja_nil) trivial) (jg2 2 3 nd))) ?_
  refine js_one (js_ret (je_eq (jmk2 mk (hr.mono (by decide)) (ja_cons (je_op (pe_op op_sub (je_op (pe_op op_mulW (jv 2) (je_bot Z.F (jv 0))) (rop_mulW (fits_m2 hp))) (je_op (pe_op op_mulW (je_top Z.F (jv 0)) (jv 3)) (rop_mulW (fits_m1 hp)))) rop_sub) (ja_cons (je_op (pe_op op_mulW (je_bot Z.F (jv 0)) (jv 3)) (rop_mulW (fits_m3 hp))) ja_nil)) (fits_ht hp)) ?_))
  rw [q_rsub]
abbrev sp_R__mul__ (C : Addr) : Sp := Pr (qA C) (fun w => Fits w.1 w.2) (fun w => IsQ C (w.1 * w.2))
theorem ok_R__mul__ (Z : Glo K mg C) (mk : Mkr P w K mg base C 2) (k_told_pair : Kn_told_pair P w K mg base C) {f : Addr} {fd : FuncData} (Fd : FnM K "__mul__" "Ratio.__mul__" st_R__mul__ f fd) : FnOk P w K mg base CX0 6 f fd ["self", "other"] (sp_R__mul__ C) := by
  refine fn_pr Fd sc_R__mul__ (fun u => by first | rfl | (cases u <;> rfl)) (fun _ => False) (fun _ _ h => h.elim) (fun X u E hX hp hE => ?_)
  obtain ⟨cdv, A, outer, s, H, E', rfl, hr⟩ := hX
  refine PSs.nox ?_
  have nd := (sc_R__mul__).nd
  replace hr : Room 5 (cxOf CX0 P w K mg base N_R__mul__ "Ratio.__mul__" (defScope st_R__mul__) f cdv A outer s H E').nox.A := hr
  obtain ⟨q, r⟩ := u
  have hp : Fits q r := hp
  refine js_seq (js_asg (ps_asg (jc k_told_pair (hr.mono (by decide)) r (ja_cons (jv 1) ja_nil) trivial) (jg2 2 3 nd))) ?_
  refine js_one (js_ret (je_eq (jmk2 mk (hr.mono (by decide)) (ja_cons (je_op (pe_op op_mulW (je_top Z.F (jv 0)) (jv 2)) (rop_mulW (fits_m4 hp))) (ja_cons (je_op (pe_op op_mulW (je_bot Z.F (jv 0)) (jv 3)) (rop_mulW (fits_m3 hp))) ja_nil)) (fits_ht hp)) ?_))
  rw [q_mul]
abbrev sp_Rover (C : Addr) : Sp := Pr (qA C) (fun w => FitsO w.1 w.2) (fun w => IsQ C (w.1 / w.2))
theorem ok_Rover (Z : Glo K mg C) (mk : Mkr P w K mg base C 2) (k_told_pair : Kn_told_pair P w K mg base C) {f : Addr} {fd : FuncData} (Fd : FnM K "over" "Ratio.over" st_Rover f fd) : FnOk P w K mg base CX0 6 f fd ["self", "other"] (sp_Rover C) := by
  refine fn_pr Fd sc_Rover (fun u => by first | rfl | (cases u <;> rfl)) (fun _ => False) (fun _ _ h => h.elim) (fun X u E hX hp hE => ?_)
  obtain ⟨cdv, A, outer, s, H, E', rfl, hr⟩ := hX
  refine PSs.nox ?_
  have nd := (sc_Rover).nd
  replace hr : Room 5 (cxOf CX0 P w K mg base N_Rover "Ratio.over" (defScope st_Rover) f cdv A outer s H E').nox.A := hr
  obtain ⟨q, r⟩ := u
  have hp : FitsO q r := hp
  refine js_seq (js_asg (ps_asg (jc k_told_pair (hr.mono (by decide)) r (ja_cons (jv 1) ja_nil) trivial) (jg2 2 3 nd))) ?_
  have hn : r.num ≠ 0 := fun e => hp.1 (Rat.num_eq_zero.mp e)
  refine js_seq (G1 := G0 [IsQ C q, IsNm C r, IsI r.num, IsI (r.den : Int)] 4) (js_if (b1 := false) (jt_eq (jt_cmp (pt_cmpR op_eq (jv 2 (R := IsI r.num)) jI (nomark _)) rop_eqI) (decide_eq_false hn)) (fun h => nomatch h) (fun _ => js_nil rfl)) ?_
  refine js_one (js_ret (je_eq (jmk2 mk (hr.mono (by decide)) (ja_cons (je_op (pe_op op_mulW (je_top Z.F (jv 0)) (jv 3)) (rop_mulW (fitsO_m1 hp))) (ja_cons (je_op (pe_op op_mulW (je_bot Z.F (jv 0)) (jv 2)) (rop_mulW (fitsO_m2 hp))) ja_nil)) (fitsO_ht hp)) ?_))
  rw [q_over]
abbrev sp_Ris_below (C : Addr) : Sp := Pr (qA C) (fun w => Fits w.1 w.2) (fun w => IsB (decide (w.1 < w.2)))
theorem ok_Ris_below (Z : Glo K mg C) (k_told_pair : Kn_told_pair P w K mg base C) {f : Addr} {fd : FuncData} (Fd : FnM K "is_below" "Ratio.is_below" st_Ris_below f fd) : FnOk P w K mg base CX0 6 f fd ["self", "other"] (sp_Ris_below C) := by
  refine fn_pr Fd sc_Ris_below (fun u => by first | rfl | (cases u <;> rfl)) (fun _ => False) (fun _ _ h => h.elim) (fun X u E hX hp hE => ?_)
  obtain ⟨cdv, A, outer, s, H, E', rfl, hr⟩ := hX
  refine PSs.nox ?_
  have nd := (sc_Ris_below).nd
  replace hr : Room 5 (cxOf CX0 P w K mg base N_Ris_below "Ratio.is_below" (defScope st_Ris_below) f cdv A outer s H E').nox.A := hr
  obtain ⟨q, r⟩ := u
  have hp : Fits q r := hp
  refine js_seq (js_asg (ps_asg (jc k_told_pair (hr.mono (by decide)) r (ja_cons (jv 1) ja_nil) trivial) (jg2 2 3 nd))) ?_
  refine js_one (js_ret (je_eq (je_op (pe_cmpR op_lt (je_op (pe_op op_mulW (je_top Z.F (jv 0)) (jv 3)) (rop_mulW (fits_m1 hp))) (je_op (pe_op op_mulW (jv 2) (je_bot Z.F (jv 0))) (rop_mulW (fits_m2 hp))) (nomark _)) rop_lt) ?_))
  rw [q_lt]
abbrev sp_R__eq__ (C : Addr) : Sp := spEqQ C
theorem ok_R__eq__ (Z : Glo K mg C)  {f : Addr} {fd : FuncData} (Fd : FnM K "__eq__" "Ratio.__eq__" st_R__eq__ f fd) : FnOk P w K mg base CX0 1 f fd ["self", "other"] (sp_R__eq__ C) := by
  refine fn_pr Fd sc_R__eq__ (fun u => by first | rfl | (cases u <;> rfl)) (fun _ => False) (fun _ _ h => h.elim) (fun X u E hX hp hE => ?_)
  obtain ⟨cdv, A, outer, s, H, E', rfl, hr⟩ := hX
  refine PSs.nox ?_
  have nd := (sc_R__eq__).nd
  replace hr : Room 0 (cxOf CX0 P w K mg base N_R__eq__ "Ratio.__eq__" (defScope st_R__eq__) f cdv A outer s H E').nox.A := hr
  obtain ⟨q, r⟩ := u
  refine js_seq (G1 := G0 [IsQ C q, IsQ C r] 2) (js_if (b1 := false) (jt_not (b1 := true) (jt_val (pt_val (jbB call_isi Z.isi boot_isinstance (ja_cons (jv 1) (ja_cons (jglob (v := .ref C) Z.rat rfl) ja_nil)) (isi_Q (q := r) Z.F (.own C) Z.F.oo))))) (fun h => nomatch h) (fun _ => js_nil rfl)) ?_
  refine js_one (js_ret (je_eq (je_and (je_op (pe_cmpR op_eq (je_top Z.F (jv 0)) (je_top Z.F (jv 1)) (nomark _)) rop_eqI) fun _ => pe_one (je_op (pe_cmpR op_eq (je_bot Z.F (jv 0)) (je_bot Z.F (jv 1)) (nomark _)) rop_eqI)) ?_))
  rw [q_eq]
abbrev sp_is_number (C : Addr) : Sp := Pr (ι := Rat) (fun q => [IsNm C q]) (fun _ => True) (fun q => IsB true)
abbrev Kn_is_number (P : Program) (w : World) (K : PySem.W.Frag) (mg : Str → Option Value) (base : Heap) (C : Addr) : Prop := Kn P w K mg base "is_number" 2 ["value"] (sp_is_number C)
theorem ok_is_number (Z : Glo K mg C) (k_is_integer : Kn_is_integer P w K mg base C) {f : Addr} {fd : FuncData} (Fd : FnP K "is_number" st_is_number f fd) : FnOk P w K mg base CX0 2 f fd ["value"] (sp_is_number C) := by
  refine fn_pr Fd sc_is_number (fun u => by first | rfl | (cases u <;> rfl)) (fun _ => False) (fun _ _ h => h.elim) (fun X u E hX hp hE => ?_)
  obtain ⟨cdv, A, outer, s, H, E', rfl, hr⟩ := hX
  refine PSs.nox ?_
  have nd := (sc_is_number).nd
  replace hr : Room 1 (cxOf CX0 P w K mg base N_is_number "is_number" (defScope st_is_number) f cdv A outer s H E').nox.A := hr
  rename Rat => q
  refine js_or (i := 0) (R1 := IsQ C q) (R2 := fun v F => ∃ i : Int, q = (i : Rat) ∧ v = .int i) rfl (fun v F F' h e => h.mono e) (fun v F F' h e => h) ?_ ?_
  · exact js_one (js_ret (je_eq (je_or (b1 := false) (b2 := true) (jc k_is_integer hr (.inr q) (ja_cons (jv 0) ja_nil) trivial) fun _ => pe_one (jbB call_isi Z.isi boot_isinstance (ja_cons (jv 0) (ja_cons (jglob (v := .ref C) Z.rat rfl) ja_nil)) (isi_Q (q := q) Z.F (.own C) Z.F.oo))) rfl))
  · refine js_open (i := 0) (P := fun i : Int => q = (i : Rat)) (R := fun i => IsI i) (G := [.fz (Som (fun i : Int => q = (i : Rat)) fun i => IsI i)]) rfl (fun i v F F' h e => h) (fun i hi => ?_)
    exact js_one (js_ret (je_eq (je_or (b1 := true) (b2 := true) (jc k_is_integer hr (.inl i) (ja_cons (jv 0) ja_nil) trivial) (fun h => nomatch h)) rfl))
abbrev sp_ratio_of (C : Addr) : Sp := Pr (ι := Rat) (fun q => [IsNm C q]) (fun _ => True) (fun q => IsQ C q)
abbrev Kn_ratio_of (P : Program) (w : World) (K : PySem.W.Frag) (mg : Str → Option Value) (base : Heap) (C : Addr) : Prop := Kn P w K mg base "ratio_of" 5 ["number"] (sp_ratio_of C)
theorem ok_ratio_of (Z : Glo K mg C) (mk : Mkr P w K mg base C 2) {f : Addr} {fd : FuncData} (Fd : FnP K "ratio_of" st_ratio_of f fd) : FnOk P w K mg base CX0 5 f fd ["number"] (sp_ratio_of C) := by
  refine fn_pr Fd sc_ratio_of (fun u => by first | rfl | (cases u <;> rfl)) (fun _ => False) (fun _ _ h => h.elim) (fun X u E hX hp hE => ?_)
  obtain ⟨cdv, A, outer, s, H, E', rfl, hr⟩ := hX
  refine PSs.nox ?_
  have nd := (sc_ratio_of).nd
  replace hr : Room 4 (cxOf CX0 P w K mg base N_ratio_of "ratio_of" (defScope st_ratio_of) f cdv A outer s H E').nox.A := hr
  rename Rat => q
  refine js_or (i := 0) (R1 := IsQ C q) (R2 := fun v F => ∃ i : Int, q = (i : Rat) ∧ v = .int i) rfl (fun v F F' h e => h.mono e) (fun v F F' h e => h) ?_ ?_
  · exact js_one (js_ret (je_if (b1 := true) (jt_val (pt_val (jbB call_isi Z.isi boot_isinstance (ja_cons (jv 0) (ja_cons (jglob (v := .ref C) Z.rat rfl) ja_nil)) (isi_Q (q := q) Z.F (.own C) Z.F.oo)))) (fun _ => jv 0) (fun h => nomatch h)))
  · refine js_open (i := 0) (P := fun i : Int => q = (i : Rat)) (R := fun i => IsI i) (G := [.fz (Som (fun i : Int => q = (i : Rat)) fun i => IsI i)]) rfl (fun i v F F' h e => h) (fun i hi => ?_)
    subst hi
    exact js_one (js_ret (je_if (b1 := false) (jt_val (pt_val (jbB call_isi Z.isi boot_isinstance (ja_cons (jv 0) (ja_cons (jglob (v := .ref C) Z.rat rfl) ja_nil)) (isi_IQ (i := i) Z.F)))) (fun h => nomatch h) (fun _ => jmk1 mk (hr.mono (by decide)) (ja_cons (jv 0) ja_nil))))
abbrev sp_want_number (C : Addr) : Sp := Pr (ι := Rat) (fun q => [IsNm C q]) (fun _ => True) (fun q => IsQ C q)
abbrev Kn_want_number (P : Program) (w : World) (K : PySem.W.Frag) (mg : Str → Option Value) (base : Heap) (C : Addr) : Prop := Kn P w K mg base "want_number" 6 ["value"] (sp_want_number C)
theorem ok_want_number (Z : Glo K mg C) (k_is_number : Kn_is_number P w K mg base C) (k_ratio_of : Kn_ratio_of P w K mg base C) {f : Addr} {fd : FuncData} (Fd : FnP K "want_number" st_want_number f fd) : FnOk P w K mg base CX0 6 f fd ["value"] (sp_want_number C) := by
  refine fn_pr Fd sc_want_number (fun u => by first | rfl | (cases u <;> rfl)) (fun _ => False) (fun _ _ h => h.elim) (fun X u E hX hp hE => ?_)
  obtain ⟨cdv, A, outer, s, H, E', rfl, hr⟩ := hX
  refine PSs.nox ?_
  have nd := (sc_want_number).nd
  replace hr : Room 5 (cxOf CX0 P w K mg base N_want_number "want_number" (defScope st_want_number) f cdv A outer s H E').nox.A := hr
  rename Rat => q
  refine js_seq (G1 := G0 [IsNm C q] 1) (js_if (b1 := false) (jt_not (b1 := true) (jt_val (pt_val (jc k_is_number (hr.mono (by decide)) q (ja_cons (jv 0) ja_nil) trivial)))) (fun h => nomatch h) (fun _ => js_nil rfl)) ?_
  exact js_one (js_ret (jc k_ratio_of (hr.mono (by decide)) q (ja_cons (jv 0) ja_nil) trivial))
end
end Gw
/-! What the text's functions compute, in plain Lean; sizes. -/
namespace Gw
theorem foldl_take {α β : Type} {f : β → α → β} {b : β} {xs : List α} {i : Nat} {x : α} (h : xs[i]? = some x) : (xs.take (i + 1)).foldl f b = f ((xs.take i).foldl f b) x := by
  rw [List.take_add_one, h, List.foldl_append]
  rfl
theorem map_take {α β : Type} {f : α → β} {xs : List α} {i : Nat} {x : α} (h : xs[i]? = some x) : (xs.take (i + 1)).map f = (xs.take i).map f ++ [f x] := by
  rw [List.take_add_one, h, List.map_append]
  rfl
/-! ### ratios -/
def sumR (xs : List Rat) : Rat := xs.foldl (· + ·) 0
def FitsL : Rat → List Rat → Prop
  | _, [] => True
  | a, x :: xs => Fits a x ∧ FitsL (a + x) xs
theorem FitsL.at {xs : List Rat} : ∀ {a : Rat}, FitsL a xs → ∀ {i : Nat} {x : Rat}, xs[i]? = some x → Fits ((xs.take i).foldl (· + ·) a) x := by
  induction xs with
  | nil => intro a _ i x h; simp at h
  | cons y ys ih =>
    intro a h i x hx
    cases i with
    | zero =>
      simp at hx
      subst hx
      exact h.1
    | succ i => exact ih h.2 (by simpa using hx)
theorem FitsL.of {n : Nat} {xs : List Rat} : ∀ {a : Rat} {m : Nat}, Sz m a → (∀ x ∈ xs, Sz n x) → m + (n + 1) * xs.length ≤ 9000 → FitsL a xs := by
  induction xs with
  | nil => intro a m _ _ _; trivial
  | cons y ys ih =>
    intro a m ha hx hl
    have e : (n + 1) * (y :: ys).length = (n + 1) * ys.length + (n + 1) := by rw [List.length_cons, Nat.mul_succ]
    rw [e] at hl
    refine ⟨ha.fits (hx y (by simp)) (by omega), ih (m := m + n + 1) (ha.add (hx y (by simp))) (fun x hx' => hx x (by simp [hx'])) (by omega)⟩
theorem sz0 : Sz 1 (0 : Rat) := ⟨by decide, by decide⟩
theorem FitsL.zero {n : Nat} {xs : List Rat} (h : ∀ x ∈ xs, Sz n x) (hl : 1 + (n + 1) * xs.length ≤ 9000) : FitsL 0 xs := FitsL.of sz0 h hl
theorem sz_foldl {n : Nat} {xs : List Rat} : ∀ {a : Rat} {m : Nat}, Sz m a → (∀ x ∈ xs, Sz n x) → Sz (m + (n + 1) * xs.length) (xs.foldl (· + ·) a) := by
  induction xs with
  | nil => intro a m h _; exact h.mono (by omega)
  | cons y ys ih =>
    intro a m ha hx
    have e : (n + 1) * (y :: ys).length = (n + 1) * ys.length + (n + 1) := by rw [List.length_cons, Nat.mul_succ]
    rw [e]
    exact (ih (m := m + n + 1) (ha.add (hx y (by simp))) (fun x hx' => hx x (by simp [hx']))).mono (by omega)
theorem sz_sumR {n : Nat} {xs : List Rat} (h : ∀ x ∈ xs, Sz n x) : Sz (1 + (n + 1) * xs.length) (sumR xs) := sz_foldl sz0 h
def lcmD (xs : List Rat) : Nat := xs.foldl (fun b x => Nat.lcm b x.den) 1
def wholesL (xs : List Rat) : List Int := xs.map fun x => x.num * ((lcmD xs : Nat) : Int).fdiv (x.den : Int)
/-- one bound of the denominators -/
def WhP (xs : List Rat) : Prop := ∃ D : Nat, 0 < D ∧ D < 2 ^ 9000 ∧ ∀ x ∈ xs, x.den ∣ D ∧ x.num.natAbs < 2 ^ 20000
theorem foldl_lcm_dvd {D : Nat} {xs : List Rat} : ∀ {b : Nat}, b ∣ D → (∀ x ∈ xs, x.den ∣ D) → xs.foldl (fun b x => Nat.lcm b x.den) b ∣ D := by
  induction xs with
  | nil => intro b h _; exact h
  | cons y ys ih => intro b h hx; exact ih (Nat.lcm_dvd h (hx y (by simp))) (fun x hx' => hx x (by simp [hx']))
theorem lcmD_dvd {D : Nat} {xs : List Rat} (h : ∀ x ∈ xs, x.den ∣ D) : lcmD xs ∣ D := foldl_lcm_dvd (Nat.one_dvd D) h
theorem foldl_lcm_ge {xs : List Rat} : ∀ {b : Nat}, b ∣ xs.foldl (fun b x => Nat.lcm b x.den) b ∧ ∀ x ∈ xs, x.den ∣ xs.foldl (fun b x => Nat.lcm b x.den) b := by
  induction xs with
  | nil => intro b; exact ⟨Nat.dvd_refl b, fun x h => by simp at h⟩
  | cons y ys ih =>
    intro b
    have h := @ih (Nat.lcm b y.den)
    refine ⟨Nat.dvd_trans (Nat.dvd_lcm_left b y.den) h.1, fun x hx => ?_⟩
    rcases List.mem_cons.mp hx with e | e
    · subst e
      exact Nat.dvd_trans (Nat.dvd_lcm_right b x.den) h.1
    · exact h.2 x e
theorem den_dvd_lcmD {xs : List Rat} {x : Rat} (h : x ∈ xs) : x.den ∣ lcmD xs := foldl_lcm_ge.2 x h
/-! ### solved -/
def Bd (n : Nat) (row : List Int) : Prop := ∀ x ∈ row, x.natAbs < 2 ^ n
def gcdL (row : List Int) : Nat := row.foldl (fun c n => if n = 0 then c else Nat.gcd c n.natAbs) 0
def bareR (row : List Int) : List Int := if gcdL row > 1 then row.map fun n => n.fdiv ((gcdL row : Nat) : Int) else row
def clearedR (row head : List Int) (p : Nat) : List Int := if row[p]! = 0 then row else bareR ((row.zip head).map fun q => head[p]! * q.1 - row[p]! * q.2)
def firstAt (rows : List (List Int)) (p : Nat) : Int := match rows.findIdx? (fun r => decide (r[p]! ≠ 0)) with
  | some i => (i : Int)
  | none => -1
def headedR (row : List Int) (p : Nat) : List Int := if (bareR row)[p]! > 0 then bareR row else (bareR row).map fun n => 0 - n
structure St2 where
  left : List (List Int)
  found : List (List Int)
def stepI (p : Nat) (s : St2) : St2 := match s.left.findIdx? (fun r => decide (r[p]! ≠ 0)) with
  | some i => ⟨(s.left.take i ++ s.left.drop (i + 1)).map fun r => clearedR r (headedR s.left[i]! p) p, (s.found.map fun r => clearedR r (headedR s.left[i]! p) p) ++ [headedR s.left[i]! p]⟩
  | none => s
def wid (rows : List (List Int)) : Nat := if rows.length > 0 then rows[0]!.length else 0
def stepsTo (rows : List (List Int)) (k : Nat) : St2 := (List.range k).foldl (fun s p => stepI p s) ⟨rows, []⟩
def int_stepsR (rows : List (List Int)) : List (List Int) := (stepsTo rows (wid rows)).found
theorem stepsTo_succ (rows : List (List Int)) (k : Nat) : stepsTo rows (k + 1) = stepI k (stepsTo rows k) := by
  unfold stepsTo
  rw [List.range_succ, List.foldl_append]
  rfl
def headOf (row : List Int) : Nat := row.findIdx (fun n => decide (n ≠ 0))
def told_rowR (row : List Int) : List Rat := row.map fun n => Rat.divInt n row[headOf row]!
def steps_ofR (rows : List (List Rat)) : List (List Rat) := (int_stepsR (rows.map wholesL)).map told_rowR
/-! sizes -/
theorem Bd.mono {n m : Nat} {row : List Int} (h : Bd n row) (hm : n ≤ m) : Bd m row := fun x hx => Nat.lt_of_lt_of_le (h x hx) (Nat.pow_le_pow_right (by omega) hm)
theorem Bd.get {n : Nat} {row : List Int} (h : Bd n row) {p : Nat} (hp : p < row.length) : (row[p]!).natAbs < 2 ^ n := by
  rw [getElem!_pos row p hp]
  exact h _ (List.getElem_mem hp)
theorem gcdL_take_succ {row : List Int} {i : Nat} {x : Int} (h : row[i]? = some x) : gcdL (row.take (i + 1)) = if x = 0 then gcdL (row.take i) else Nat.gcd (gcdL (row.take i)) x.natAbs := by
  unfold gcdL
  rw [foldl_take h]
theorem gcdL_bd {n : Nat} {row : List Int} (h : Bd n row) : gcdL row < 2 ^ n := by
  unfold gcdL
  have all : ∀ (row : List Int) (c : Nat), c < 2 ^ n → (∀ x ∈ row, x.natAbs < 2 ^ n) → row.foldl (fun c n => if n = 0 then c else Nat.gcd c n.natAbs) c < 2 ^ n := by
    intro row
    induction row with
    | nil => intro c h _; exact h
    | cons x xs ih =>
      intro c hc hx
      rw [List.foldl_cons]
      refine ih _ ?_ (fun y hy => hx y (by simp [hy]))
      split
      · exact hc
      · exact Nat.lt_of_le_of_lt (Nat.le_of_dvd (by omega) (Nat.gcd_dvd_right _ _)) (hx x (by simp))
  exact all row 0 (Nat.two_pow_pos n) h
theorem natAbs_fdiv_le (a : Int) (b : Nat) : (a.fdiv (b : Int)).natAbs ≤ a.natAbs := by
  by_cases hb : b = 0
  · subst hb; simp
  · rw [Int.fdiv_eq_ediv_of_nonneg _ (by omega)]
    have : 0 < (b : Int) := by omega
    have h1 : a / (b : Int) * b ≤ a := Int.ediv_mul_le a (by omega)
    rcases Int.le_total 0 a with h | h
    · have h2 : 0 ≤ a / (b : Int) := Int.ediv_nonneg h (by omega)
      have h3 : a / (b : Int) ≤ a := Int.ediv_le_self _ h
      omega
    · have h2 : a ≤ a / (b : Int) := by
        rw [Int.le_ediv_iff_mul_le (by omega)]
        have := Int.mul_le_mul_of_nonpos_left (a := a) (b := (b : Int)) (c := 1) h (by omega)
        omega
      have h3 : a / (b : Int) ≤ 0 := by
        rcases Int.lt_or_le 0 (a / (b : Int)) with h4 | h4
        · have h5 : (1 : Int) ≤ a / (b : Int) := h4
          rw [Int.le_ediv_iff_mul_le (by omega)] at h5
          omega
        · exact h4
      omega
theorem bareR_bd {n : Nat} {row : List Int} (h : Bd n row) : Bd n (bareR row) := by
  unfold bareR
  split
  · intro x hx
    obtain ⟨y, hy, rfl⟩ := List.mem_map.mp hx
    exact Nat.lt_of_le_of_lt (natAbs_fdiv_le y _) (h y hy)
  · exact h
theorem bareR_len (row : List Int) : (bareR row).length = row.length := by
  unfold bareR
  split <;> simp
theorem clearedR_len {row head : List Int} {p : Nat} (h : row.length = head.length) : (clearedR row head p).length = row.length := by
  unfold clearedR
  split
  · rfl
  · rw [bareR_len]; simp [h]
theorem clearedR_bd {n : Nat} {row head : List Int} {p : Nat} (hr : Bd n row) (hh : Bd n head) (h1 : p < row.length) (h2 : p < head.length) : Bd (2 * n + 1) (clearedR row head p) := by
  unfold clearedR
  split
  · exact hr.mono (by omega)
  · refine bareR_bd fun x hx => ?_
    obtain ⟨q, hq, rfl⟩ := List.mem_map.mp hx
    obtain ⟨m1, m2⟩ := List.of_mem_zip hq
    have a1 : (head[p]! * q.1).natAbs < 2 ^ n * 2 ^ n := by rw [Int.natAbs_mul]; exact Nat.mul_lt_mul'' (hh.get h2) (hr _ m1)
    have a2 : (row[p]! * q.2).natAbs < 2 ^ n * 2 ^ n := by rw [Int.natAbs_mul]; exact Nat.mul_lt_mul'' (hr.get h1) (hh _ m2)
    have e : (2 : Nat) ^ (2 * n + 1) = 2 * (2 ^ n * 2 ^ n) := by rw [Nat.pow_succ, Nat.two_mul, Nat.pow_add]; omega
    omega
theorem headedR_len (row : List Int) (p : Nat) : (headedR row p).length = row.length := by
  unfold headedR
  split <;> simp [bareR_len]
theorem headedR_bd {n : Nat} {row : List Int} (h : Bd n row) (p : Nat) : Bd n (headedR row p) := by
  unfold headedR
  split
  · exact bareR_bd h
  · intro x hx
    obtain ⟨y, hy, rfl⟩ := List.mem_map.mp hx
    have := bareR_bd h y hy
    omega
/-- the rows at a step: width m, entries of b bits -/
structure Rect (m b : Nat) (rows : List (List Int)) : Prop where
  len : ∀ r ∈ rows, r.length = m
  bd : ∀ r ∈ rows, Bd b r
def bits (b k : Nat) : Nat := (b + 1) * 2 ^ k - 1
theorem bits_succ (b k : Nat) : bits b (k + 1) = 2 * bits b k + 1 := by
  unfold bits
  rw [Nat.pow_succ]
  have : 0 < (b + 1) * 2 ^ k := Nat.mul_pos (by omega) (Nat.two_pow_pos k)
  have e : (b + 1) * (2 ^ k * 2) = 2 * ((b + 1) * 2 ^ k) := by rw [← Nat.mul_assoc]; omega
  rw [e]
  omega
theorem bits_mono {b j k : Nat} (h : j ≤ k) : bits b j ≤ bits b k := by
  unfold bits
  have : (b + 1) * 2 ^ j ≤ (b + 1) * 2 ^ k := Nat.mul_le_mul_left _ (Nat.pow_le_pow_right (by omega) h)
  omega
theorem bits_zero (b : Nat) : bits b 0 = b := by unfold bits; simp
/-- the steps keep these -/
structure StOk (m b n : Nat) (s : St2) : Prop where
  l : Rect m (bits b s.found.length) s.left
  f : Rect m (bits b s.found.length) s.found
  n : s.left.length + s.found.length = n
theorem findIdx_some {α : Type} {p : α → Bool} {xs : List α} {i : Nat} (h : xs.findIdx? p = some i) : ∃ hi : i < xs.length, p xs[i] = true ∧ ∀ j (hj : j < i), p (xs[j]'(by omega)) = false := by
  obtain ⟨hi, h1, h2⟩ := List.findIdx?_eq_some_iff_getElem.mp h
  exact ⟨hi, h1, fun j hj => by simpa using h2 j hj⟩
theorem stepI_ok {m b n p : Nat} {s : St2} (h : StOk m b n s) (hp : p < m) : StOk m b n (stepI p s) := by
  unfold stepI
  split
  · rename_i i hi
    obtain ⟨hl, _, _⟩ := findIdx_some hi
    have hm : s.left[i]! ∈ s.left := by rw [getElem!_pos s.left i hl]; exact List.getElem_mem hl
    have hhl : (headedR s.left[i]! p).length = m := by rw [headedR_len]; exact h.l.len _ hm
    have hhb : Bd (bits b s.found.length) (headedR s.left[i]! p) := headedR_bd (h.l.bd _ hm) p
    have hlen : ((s.found.map fun r => clearedR r (headedR s.left[i]! p) p) ++ [headedR s.left[i]! p]).length = s.found.length + 1 := by simp
    have sub : ∀ r ∈ s.left.take i ++ s.left.drop (i + 1), r ∈ s.left := fun r hr => by
      rcases List.mem_append.mp hr with q | q
      · exact List.mem_of_mem_take q
      · exact List.mem_of_mem_drop q
    refine ⟨⟨fun r hr => ?_, fun r hr => ?_⟩, ⟨fun r hr => ?_, fun r hr => ?_⟩, ?_⟩
    · obtain ⟨y, hy, rfl⟩ := List.mem_map.mp hr
      rw [clearedR_len (by rw [hhl]; exact h.l.len _ (sub y hy))]
      exact h.l.len _ (sub y hy)
    · obtain ⟨y, hy, rfl⟩ := List.mem_map.mp hr
      show Bd (bits b _) _
      rw [hlen, bits_succ]
      exact clearedR_bd (h.l.bd _ (sub y hy)) hhb (by rw [h.l.len _ (sub y hy)]; exact hp) (by rw [hhl]; exact hp)
    · rcases List.mem_append.mp hr with q | q
      · obtain ⟨y, hy, rfl⟩ := List.mem_map.mp q
        rw [clearedR_len (by rw [hhl]; exact h.f.len _ hy)]
        exact h.f.len _ hy
      · rw [List.mem_singleton.mp q]
        exact hhl
    · show Bd (bits b _) _
      rw [hlen, bits_succ]
      rcases List.mem_append.mp hr with q | q
      · obtain ⟨y, hy, rfl⟩ := List.mem_map.mp q
        exact clearedR_bd (h.f.bd _ hy) hhb (by rw [h.f.len _ hy]; exact hp) (by rw [hhl]; exact hp)
      · rw [List.mem_singleton.mp q]
        exact hhb.mono (by omega)
    · show (List.map _ _).length + _ = n
      rw [hlen, List.length_map, List.length_append, List.length_take, List.length_drop]
      have := h.n
      omega
  · exact h
theorem stepsTo_ok {m b : Nat} {rows : List (List Int)} (h : Rect m b rows) : ∀ k, k ≤ m → StOk m b rows.length (stepsTo rows k)
  | 0, _ => by
    refine ⟨?_, ⟨fun r hr => by simp [stepsTo] at hr, fun r hr => by simp [stepsTo] at hr⟩, by simp [stepsTo]⟩
    show Rect m (bits b 0) rows
    rw [bits_zero]
    exact h
  | k + 1, hk => by
    rw [stepsTo_succ]
    exact stepI_ok (stepsTo_ok h k (by omega)) (by omega)
theorem wid_eq {m b : Nat} {rows : List (List Int)} (h : Rect m b rows) (hn : 0 < rows.length) : wid rows = m := by
  unfold wid
  rw [if_pos hn, getElem!_pos rows 0 hn]
  exact h.len _ (List.getElem_mem hn)
end Gw
set_option maxHeartbeats 4000000
namespace Gw
open PySem PySem.Spec PyProof.Rows L2
section
variable {P : Program} {w : World} {K : PySem.W.Frag} {mg : Str → Option Value} {base : Heap} {C : Addr}
theorem line_of {n m : Nat} (h : n ≤ m) (hm : m < 100000 := by decide) : n < sizeLine := by
  have : (100000 : Nat) ≤ sizeLine := by decide
  omega
abbrev sp_is_list (_ : Addr) : Sp := Pr (ι := Unit) (fun _ => [IsLT]) (fun _ => True) (fun _ => IsB true)
abbrev Kn_is_list (P : Program) (w : World) (K : PySem.W.Frag) (mg : Str → Option Value) (base : Heap) (C : Addr) : Prop := Kn P w K mg base "is_list" 1 ["value"] (sp_is_list C)
theorem ok_is_list (Z : Glo K mg C)  {f : Addr} {fd : FuncData} (Fd : FnP K "is_list" st_is_list f fd) : FnOk P w K mg base CX0 1 f fd ["value"] (sp_is_list C) := by
  refine fn_pr Fd sc_is_list (fun u => by first | rfl | (cases u <;> rfl)) (fun _ => False) (fun _ _ h => h.elim) (fun X u E hX hp hE => ?_)
  obtain ⟨cdv, A, outer, s, H, E', rfl, hr⟩ := hX
  refine PSs.nox ?_
  have nd := (sc_is_list).nd
  replace hr : Room 0 (cxOf CX0 P w K mg base N_is_list "is_list" (defScope st_is_list) f cdv A outer s H E').nox.A := hr
  refine js_or (i := 0) (R1 := IsAL) (R2 := IsAT) rfl (fun v F F' h e => let ⟨a, vs, h1, h2⟩ := h; ⟨a, vs, h1, e _ _ h2⟩) (fun v F F' h e => let ⟨a, vs, h1, h2⟩ := h; ⟨a, vs, h1, e _ _ h2⟩) ?_ ?_
  · exact js_one (js_ret (jbB call_isiT Z.isi boot_isinstance (ja_cons (jv 0 (R := IsAL)) (ja_cons (je_tup (Rs := [IsC (.ty "list"), IsC (.ty "tuple")]) (pe_tup (ja_cons (jty Z.list boot_list) (ja_cons (jty Z.tuple boot_tuple) ja_nil)))) ja_nil)) (isi_al (cs := [.ty "list", .ty "tuple"]) (us := [.type "list", .type "tuple"]) (.cons (.ty _) (.cons (.ty _) .nil)) (kitAny_cons (b := true) (kit_ty (by decide +kernel)) (fun h => nomatch h) (fun _ => rfl)))))
  · exact js_one (js_ret (jbB call_isiT Z.isi boot_isinstance (ja_cons (jv 0 (R := IsAT)) (ja_cons (je_tup (Rs := [IsC (.ty "list"), IsC (.ty "tuple")]) (pe_tup (ja_cons (jty Z.list boot_list) (ja_cons (jty Z.tuple boot_tuple) ja_nil)))) ja_nil)) (isi_at (cs := [.ty "list", .ty "tuple"]) (us := [.type "list", .type "tuple"]) (.cons (.ty _) (.cons (.ty _) .nil)) (kitAny_cons (b := false) (kit_ty (by decide +kernel)) (fun _ => kitAny_cons (b := true) (kit_ty (by decide +kernel)) (fun h => nomatch h) (fun _ => rfl)) (fun h => nomatch h)))))
abbrev sp_total_of (C : Addr) : Sp := Pr (ι := List Rat) (fun xs => [IsL (IsQ C) xs]) (fun xs => FitsL 0 xs) (fun xs => IsQ C (sumR xs))
abbrev Kn_total_of (P : Program) (w : World) (K : PySem.W.Frag) (mg : Str → Option Value) (base : Heap) (C : Addr) : Prop := Kn P w K mg base "total_of" 7 ["ratios"] (sp_total_of C)
theorem ok_total_of (Z : Glo K mg C) (mk : Mkr P w K mg base C 2) (oadd : Opr P w K mg base C .Add 6 (fun w => Fits w.1 w.2) (· + ·)) {f : Addr} {fd : FuncData} (Fd : FnP K "total_of" st_total_of f fd) : FnOk P w K mg base CX0 7 f fd ["ratios"] (sp_total_of C) := by
  refine fn_pr Fd sc_total_of (fun u => by first | rfl | (cases u <;> rfl)) (fun _ => False) (fun _ _ h => h.elim) (fun X u E hX hp hE => ?_)
  obtain ⟨cdv, A, outer, s, H, E', rfl, hr⟩ := hX
  refine PSs.nox ?_
  have nd := (sc_total_of).nd
  replace hr : Room 6 (cxOf CX0 P w K mg base N_total_of "total_of" (defScope st_total_of) f cdv A outer s H E').nox.A := hr
  rename List Rat => xs
  refine js_seq (js_set (ps_set (i := 1) nd rfl (.inl rfl) (jmk1 mk (hr.mono (by decide)) (ja_cons jI ja_nil)))) ?_
  refine js_cons (N1 := fun G => ∃ s, G = [.fz (IsL (IsQ C) xs), .fz (IsQ C (sumR xs)), s]) (js_for PassesOwn.never rfl (ji_list (Rx := IsQ C) (xs := xs) (pi_list (jv 0))) (fun x => jg1 2 nd) (fun i G => ∃ s, G = [.fz (IsL (IsQ C) xs), .fz (IsQ C ((xs.take i).foldl (· + ·) 0)), s]) ⟨_, rfl⟩ ?_ (fun G1 h => by rwa [List.take_length] at h)) ?_
  · rintro i x G1 hx ⟨s, rfl⟩
    refine js_one (js_N (js_set (R := IsQ C ((xs.take (i + 1)).foldl (· + ·) 0)) (ps_set (i := 1) nd rfl (.inl rfl) (joQ oadd (hr.mono (by decide)) (jv 1) (jv 2) (FitsL.at hp hx) (by rw [foldl_take hx])))) ?_)
    rintro G' rfl
    exact ⟨_, rfl⟩
  · rintro _ ⟨s, rfl⟩
    exact js_one (js_ret (jv 1))
abbrev sp_Rtotal (C : Addr) : Sp := Pr (ι := List Rat) (fun xs => [IsC (.ref C), IsL (IsQ C) xs]) (fun xs => FitsL 0 xs ∧ xs.length ≤ 1000) (fun xs => IsQ C (sumR xs))
theorem ok_Rtotal (Z : Glo K mg C) (k_is_list : Kn_is_list P w K mg base C) (k_total_of : Kn_total_of P w K mg base C) (k_want_number : Kn_want_number P w K mg base C) {f : Addr} {fd : FuncData} (Fd : FnM K "total" "Ratio.total" st_Rtotal f fd) : FnOk P w K mg base CX0 8 f fd ["cls", "numbers"] (sp_Rtotal C) := by
  refine fn_pr Fd sc_Rtotal (fun u => by first | rfl | (cases u <;> rfl)) (fun _ => False) (fun _ _ h => h.elim) (fun X u E hX hp hE => ?_)
  obtain ⟨cdv, A, outer, s, H, E', rfl, hr⟩ := hX
  refine PSs.nox ?_
  have nd := (sc_Rtotal).nd
  replace hr : Room 7 (cxOf CX0 P w K mg base N_Rtotal "Ratio.total" (defScope st_Rtotal) f cdv A outer s H E').nox.A := hr
  rename List Rat => xs
  refine js_seq (G1 := G0 [IsC (.ref C), IsL (IsQ C) xs] 3) (js_if (b1 := false) (jt_not (b1 := true) (jt_val (pt_val (jc k_is_list (hr.mono (by decide)) () (ja_cons (je_conv (jv 1) lst_lt) ja_nil) trivial)))) (fun h => nomatch h) (fun _ => js_nil rfl)) ?_
  refine js_one (js_ret (jc k_total_of hr xs (ja_cons (je_eq (je_m (jlc (fun x => x) [("number", 2)] nd (ji_list (Rx := IsQ C) (xs := xs) (pi_list (jv 1))) (fun s H C cl fp x => jg1 2 nd) (fun s H C cl fp x hx => jc k_want_number (hr.mono (by decide)) x (ja_cons (je_conv (jv 2) isQ_nm) ja_nil) trivial) (line_of hp.2))) (by rw [List.map_id'])) ja_nil) hp.1))
end
end Gw
/-! Plain: the flows of standings, what is ahead, the table. -/
namespace Gw
abbrev St3 : Type := Nat × Rat × Rat
def hereR (rows : List (List Rat)) (ws : List Rat) (a b : St3) : Rat := ws[a.1]! * a.2.2 * (rows[a.1]!)[b.1]!
def flowR (rows : List (List Rat)) (ws : List Rat) (a b : St3) : Rat := a.2.1 * b.2.1 * (if hereR rows ws a b < hereR rows ws b a then hereR rows ws a b else hereR rows ws b a)
/-- rows, weights of n places, with sizes -/
structure RowsOk (n : Nat) (rows : List (List Rat)) (ws : List Rat) : Prop where
  rl : rows.length = n
  rr : ∀ r ∈ rows, r.length = n
  wl : ws.length = n
  rs : ∀ r ∈ rows, ∀ x ∈ r, Sz 60 x
  wz : ∀ x ∈ ws, Sz 60 x
  hn : n ≤ 10
structure SdOk (n : Nat) (s : St3) : Prop where
  lt : s.1 < n
  c : Sz 100 s.2.1
  w : Sz 100 s.2.2
theorem get_mem {α : Type} [Inhabited α] {xs : List α} {i : Nat} (h : i < xs.length) : xs[i]! ∈ xs := by
  rw [getElem!_pos xs i h]
  exact List.getElem_mem h
section
variable {n : Nat} {rows : List (List Rat)} {ws : List Rat} {a b : St3}
theorem RowsOk.row (h : RowsOk n rows ws) {i : Nat} (hi : i < n) : (rows[i]!).length = n := h.rr _ (get_mem (by rw [h.rl]; exact hi))
theorem RowsOk.szr (h : RowsOk n rows ws) {i j : Nat} (hi : i < n) (hj : j < n) : Sz 60 (rows[i]!)[j]! := h.rs _ (get_mem (by rw [h.rl]; exact hi)) _ (get_mem (by rw [h.row hi]; exact hj))
theorem RowsOk.szw (h : RowsOk n rows ws) {i : Nat} (hi : i < n) : Sz 60 ws[i]! := h.wz _ (get_mem (by rw [h.wl]; exact hi))
theorem sz_here (h : RowsOk n rows ws) (ha : SdOk n a) (hb : SdOk n b) : Sz 220 (hereR rows ws a b) := ((h.szw ha.lt).mul ha.w).mul (h.szr ha.lt hb.lt)
theorem sz_flow (h : RowsOk n rows ws) (ha : SdOk n a) (hb : SdOk n b) : Sz 420 (flowR rows ws a b) := by
  have h2 : Sz 220 (if hereR rows ws a b < hereR rows ws b a then hereR rows ws a b else hereR rows ws b a) := by
    split
    · exact sz_here h ha hb
    · exact sz_here h hb ha
  exact (ha.c.mul hb.c).mul h2
end
def flowsR (rows : List (List Rat)) (ws : List Rat) (ss : List St3) : List (List Rat) := (ss.zipIdx).map fun p => (ss.zipIdx).map fun q => if p.2 = q.2 then 0 else flowR rows ws p.1 q.1
/-- places that hang together by positive flows -/
def Conn (flows : List (List Rat)) : Prop := ∀ S : Nat → Prop, S 0 → (∀ i j, S i → i < flows.length → j < flows.length → 0 < (flows[i]!)[j]! → S j) → ∀ i, i < flows.length → S i
/-- the search's state -/
structure JInv (flows : List (List Rat)) (met late : List Nat) : Prop where
  nd : met.Nodup
  lt : ∀ x ∈ met, x < flows.length
  sub : ∀ x ∈ late, x ∈ met
  z : 0 ∈ met
  ln : late.Nodup
  cl : ∀ x ∈ met, x ∉ late → ∀ y, y < flows.length → 0 < (flows[x]!)[y]! → y ∈ met
theorem nodup_le {n : Nat} {xs : List Nat} (h : xs.Nodup) (hl : ∀ x ∈ xs, x < n) : xs.length ≤ n := by
  have := List.Nodup.length_le_of_subset h (l₂ := List.range n) (fun x hx => List.mem_range.mpr (hl x hx))
  simpa using this
theorem JInv.late_le {flows : List (List Rat)} {met late : List Nat} (h : JInv flows met late) : late.length ≤ flows.length := nodup_le h.ln (fun x hx => h.lt x (h.sub x hx))
theorem JInv.full {flows : List (List Rat)} {met : List Nat} (h : JInv flows met []) (c : Conn flows) : met.length = flows.length := by
  have h1 := nodup_le h.nd h.lt
  have h2 := c (fun x => x ∈ met) h.z (fun i j hi hi2 hj hf => h.cl i hi (by simp) j hj hf)
  have h3 := List.Nodup.length_le_of_subset (List.nodup_range (n := flows.length)) (l₂ := met) (fun x hx => h2 x (List.mem_range.mp hx))
  rw [List.length_range] at h3
  omega
def moreR (flows : List (List Rat)) (at_ : Nat) (met : List Nat) : List Nat := ((flows[at_]!.zipIdx.map fun p => (p.2, p.1)).filter fun q => decide (0 < q.2) && !decide (q.1 ∈ met)).map fun q => q.1
theorem mem_moreR {flows : List (List Rat)} {at_ : Nat} {met : List Nat} {x : Nat} (hr : (flows[at_]!).length = flows.length) : x ∈ moreR flows at_ met ↔ x < flows.length ∧ 0 < (flows[at_]!)[x]! ∧ x ∉ met := by
  unfold moreR
  rw [List.mem_map]
  constructor
  · rintro ⟨q, hq, rfl⟩
    obtain ⟨h1, h2⟩ := List.mem_filter.mp hq
    obtain ⟨⟨y, i⟩, h3, rfl⟩ := List.mem_map.mp h1
    have h4 := List.mem_zipIdx' h3
    simp only [Bool.and_eq_true, decide_eq_true_eq, Bool.not_eq_true', decide_eq_false_iff_not] at h2
    refine ⟨by have := h4.1; omega, ?_, h2.2⟩
    rw [getElem!_pos _ i h4.1, ← h4.2]
    exact h2.1
  · rintro ⟨h1, h2, h3⟩
    have hl : x < (flows[at_]!).length := by omega
    refine ⟨(x, (flows[at_]!)[x]), List.mem_filter.mpr ⟨List.mem_map.mpr ⟨((flows[at_]!)[x], x), ?_, rfl⟩, ?_⟩, rfl⟩
    · rw [List.mem_zipIdx_iff_getElem?]
      exact List.getElem?_eq_getElem hl
    · rw [getElem!_pos _ x hl] at h2
      simp only [Bool.and_eq_true, decide_eq_true_eq, Bool.not_eq_true', decide_eq_false_iff_not]
      exact ⟨h2, h3⟩
theorem nodup_moreR {flows : List (List Rat)} {at_ : Nat} {met : List Nat} : (moreR flows at_ met).Nodup := by
  have h1 : (flows[at_]!.zipIdx.map fun p => (p.2, p.1)).map (fun q : Nat × Rat => q.1) = List.range (flows[at_]!).length := by
    rw [List.map_map]
    apply List.ext_getElem
    · simp
    · intro i h1 h2
      simp
  unfold moreR
  have h2 : List.Sublist (((flows[at_]!.zipIdx.map fun p => (p.2, p.1)).filter fun q => decide (0 < q.2) && !decide (q.1 ∈ met)).map fun q => q.1) ((flows[at_]!.zipIdx.map fun p => (p.2, p.1)).map (fun q : Nat × Rat => q.1)) := (List.filter_sublist).map _
  rw [h1] at h2
  exact List.nodup_range.sublist h2
theorem JInv.step {flows : List (List Rat)} {met late : List Nat} {at_ : Nat} (h : JInv flows met (late ++ [at_])) (hr : ∀ r ∈ flows, r.length = flows.length) : JInv flows (met ++ moreR flows at_ met) (late ++ moreR flows at_ met) := by
  have ha : at_ ∈ met := h.sub at_ (by simp)
  have hl := h.lt at_ ha
  have hrow : (flows[at_]!).length = flows.length := hr _ (get_mem hl)
  refine ⟨?_, fun x hx => ?_, fun x hx => ?_, List.mem_append_left _ h.z, ?_, fun x hx hn y hy hf => ?_⟩
  · rw [List.nodup_append]
    refine ⟨h.nd, nodup_moreR, fun a h1 b h2 e => ?_⟩
    subst e
    exact ((mem_moreR hrow).mp h2).2.2 h1
  · rcases List.mem_append.mp hx with q | q
    · exact h.lt x q
    · exact ((mem_moreR hrow).mp q).1
  · rcases List.mem_append.mp hx with q | q
    · exact List.mem_append_left _ (h.sub x (List.mem_append_left _ q))
    · exact List.mem_append_right _ q
  · have h1 := h.ln
    rw [List.nodup_append] at h1
    rw [List.nodup_append]
    refine ⟨h1.1, nodup_moreR, fun a h1 b h2 e => ?_⟩
    subst e
    exact ((mem_moreR hrow).mp h2).2.2 (h.sub a (List.mem_append_left _ h1))
  · rcases List.mem_append.mp hx with q | q
    · by_cases hx2 : x ∈ late ++ [at_]
      · rcases List.mem_append.mp hx2 with q2 | q2
        · exact absurd (List.mem_append_left _ q2) hn
        · have e : x = at_ := by simpa using q2
          subst e
          by_cases hm : y ∈ met
          · exact List.mem_append_left _ hm
          · exact List.mem_append_right _ ((mem_moreR hrow).mpr ⟨hy, hf, hm⟩)
      · exact List.mem_append_left _ (h.cl x q hx2 y hy hf)
    · exact absurd (List.mem_append_right _ q) hn
theorem JInv.start {flows : List (List Rat)} (h : 0 < flows.length) : JInv flows [0] [0] := ⟨by simp, fun x hx => by simp at hx; omega, fun x hx => hx, by simp, by simp, fun x hx hn => absurd hx hn⟩
/-! ### what is ahead, the table -/
def lapRow (flow : List Rat) (at_ : Nat) (goals : List (List Rat)) : List Rat := (flow.map fun one => 0 - one).set at_ (sumR flow) ++ goals.map fun g => g[at_]!
def lapRows (flows : List (List Rat)) (goals : List (List Rat)) : List (List Rat) := flows.zipIdx.map fun p => lapRow p.1 p.2 goals
def headQ (row : List Rat) : Nat := headOf (row.map fun q => q.num)
/-- the k-th list of what is ahead -/
def aheadOf (n : Nat) (rows : List (List Rat)) (k : Nat) : List Rat := rows.foldl (fun l row => l.set (headQ row) (row[n + k]!)) (List.replicate n 0)
def aheadsR (flows : List (List Rat)) (goals : List (List Rat)) : List (List Rat) := (List.range goals.length).map fun k => aheadOf flows.length (steps_ofR (lapRows flows goals)) k
def sharesR (ws : List Rat) : List Rat := ws.map fun w => w / sumR ws
def goalOf (ws : List Rat) (ss : List St3) (place : Nat) (share : Rat) : List Rat := ss.map fun one => ws[one.1]! * one.2.1 * one.2.2 * ((if one.1 = place then (1 : Rat) else 0) - share)
def goalsR (ws : List Rat) (ss : List St3) : List (List Rat) := (sharesR ws).zipIdx.map fun p => goalOf ws ss p.2 p.1
def bothR (ws : List Rat) (goal ahead : List Rat) : Rat := sumR ((goal.zip ahead).map fun q => q.1 * q.2) / sumR ws
def cellR (ws : List Rat) (goals aheads : List (List Rat)) (place spot : Nat) : Rat := bothR ws goals[place]! aheads[spot]! * 2 - (sharesR ws)[place]! * ((if place = spot then (1 : Rat) else 0) - (sharesR ws)[spot]!)
def tableR (ws : List Rat) (ss : List St3) (flows : List (List Rat)) : List (List Rat) := (List.range ws.length).map fun place => (List.range ws.length).map fun spot => cellR ws (goalsR ws ss) (aheadsR flows (goalsR ws ss)) place spot
end Gw
set_option maxHeartbeats 4000000
namespace Gw
open PySem PySem.Spec PyProof.Rows L2
section
variable {P : Program} {w : World} {K : PySem.W.Frag} {mg : Str → Option Value} {base : Heap} {C : Addr}
theorem all_true {α : Type} (xs : List α) : (xs.map fun _ => true).all id = true := by simp
/-! ### spreads -/
abbrev IsPn (C : Addr) (p : Rat × Rat) : V → Hp → Prop := IsTp [IsNm C p.1, IsNm C p.2]
abbrev IsPq (C : Addr) (p : Rat × Rat) : V → Hp → Prop := IsTp [IsQ C p.1, IsQ C p.2]
theorem pn_ts {C : Addr} {p : Rat × Rat} : ∀ v F, IsPn C p v F → IsTs (IsNm C) [p.1, p.2] v F := fun v F ⟨a, vs, e, h, u⟩ => ⟨a, vs, e, h, u.imp fun F q => args_ls q⟩
abbrev sp_is_part (C : Addr) : Sp := Pr (ι := Rat × Rat) (fun w => [IsPn C w]) (fun w => 0 < w.1 ∧ 0 ≤ w.2) (fun w => IsB true)
abbrev Kn_is_part (P : Program) (w : World) (K : PySem.W.Frag) (mg : Str → Option Value) (base : Heap) (C : Addr) : Prop := Kn P w K mg base "is_part" 6 ["value"] (sp_is_part C)
theorem ok_is_part (Z : Glo K mg C) (k_is_number : Kn_is_number P w K mg base C) (k_ratio_of : Kn_ratio_of P w K mg base C) (psign : PropK P w K mg base C "sign" 1 (sp_Rsign C)) {f : Addr} {fd : FuncData} (Fd : FnP K "is_part" st_is_part f fd) : FnOk P w K mg base CX0 6 f fd ["value"] (sp_is_part C) := by
  refine fn_pr Fd sc_is_part (fun u => by first | rfl | (cases u <;> rfl)) (fun _ => False) (fun _ _ h => h.elim) (fun X u E hX hp hE => ?_)
  obtain ⟨cdv, A, outer, s, H, E', rfl, hr⟩ := hX
  refine PSs.nox ?_
  have nd := (sc_is_part).nd
  replace hr : Room 5 (cxOf CX0 P w K mg base N_is_part "is_part" (defScope st_is_part) f cdv A outer s H E').nox.A := hr
  rename Rat × Rat => p
  refine js_seq (G1 := G0 [IsPn C p] 2) (js_if (b1 := false) (PW.pt (jw_or (b1 := false) (b2 := false) (jt_not (b1 := true) (jt_val (pt_val (jbB call_isi Z.isi boot_isinstance (ja_cons (je_conv (jv 0 (R := IsPn C p)) tup_at) (ja_cons (jty Z.tuple boot_tuple) ja_nil)) isi_at1)))) fun _ => jw_or (b1 := false) (b2 := false) (jt_eq (jt_cmp (pt_cmpR op_ne (jbB call_len Z.len boot_len (ja_cons (jv 0 (R := IsPn C p)) ja_nil) rc_lenTp) jI (nomark _)) rop_neI) rfl) fun _ => jw_or1 (jt_not (b1 := true) (jt_val (pt_val (je_eq (jbB (cr_all rfl) Z.all boot_all (ja_cons (je_m (jlc (Ry := IsB) (fun _ => true) [("number", 1)] nd (ji_tup (Rx := IsNm C) (xs := [p.1, p.2]) (pi_tup (je_conv (jv 0) pn_ts))) (fun s H C' cl fp x => jg1 1 nd) (fun s H C' cl fp x hx => jc k_is_number (hr.mono (by decide)) x (ja_cons (jv 1) ja_nil) trivial) (line_of (m := 2) (by show 2 ≤ 2; decide)))) ja_nil) rc_all) rfl)))))) (fun h => nomatch h) (fun _ => js_nil rfl)) ?_
  refine js_one (js_ret (je_eq (je_and (b1 := true) (je_eq (je_op (pe_cmpR op_gt (jprop psign (hr.mono (by decide)) p.1 (jc k_ratio_of hr p.1 (ja_cons (je_op (pe_ix ix_tup (jv 0 (R := IsPn C p)) jI (fun _ _ => rfl)) (rop_ixT (j := 0) rfl)) ja_nil) trivial) rfl trivial rfl) jI (nomark _)) rop_gt) ?_) fun _ => pe_one (je_eq (je_op (pe_cmpR op_ge (jprop psign (hr.mono (by decide)) p.2 (jc k_ratio_of hr p.2 (ja_cons (je_op (pe_ix ix_tup (jv 0 (R := IsPn C p)) jI (fun _ _ => rfl)) (rop_ixT (j := 1) rfl)) ja_nil) trivial) rfl trivial rfl) jI (nomark _)) rop_ge) (R' := IsB true) ?_)) rfl))
  · rw [q_sgn_pos, decide_eq_true hp.1]
  · rw [q_sgn_nn, decide_eq_true hp.2]
/-- a guess -/
structure GuessP (ps : List (Rat × Rat)) : Prop where
  lo : 1 ≤ ps.length
  hi : ps.length ≤ 4
  part : ∀ p ∈ ps, 0 < p.1 ∧ 0 ≤ p.2
  inc : ∀ q ∈ ps.zip (ps.drop 1), q.1.2 < q.2.2
  one : sumR (ps.map fun p => p.1) = 1
  mean : sumR (ps.map fun p => p.1 * p.2) = 1
  sz : ∀ p ∈ ps, Sz 100 p.1 ∧ Sz 100 p.2
abbrev IsSG (C : Addr) : List (Rat × Rat) → V → Hp → Prop := IsSq (IsPn C)
abbrev IsGQ (C : Addr) : List (Rat × Rat) → V → Hp → Prop := IsL (IsPq C)
abbrev sp_guess_in (C : Addr) : Sp := Pr (ι := List (Rat × Rat)) (fun w => [IsSG C w]) GuessP (fun w => IsGQ C w)
abbrev Kn_guess_in (P : Program) (w : World) (K : PySem.W.Frag) (mg : Str → Option Value) (base : Heap) (C : Addr) : Prop := Kn P w K mg base "guess_in" 8 ["value"] (sp_guess_in C)
theorem ok_guess_in (Z : Glo K mg C) (k_is_list : Kn_is_list P w K mg base C) (k_is_part : Kn_is_part P w K mg base C) (k_ratio_of : Kn_ratio_of P w K mg base C) (mbelow : MethK P w K mg base C "is_below" 6 ["self", "other"] (sp_Ris_below C)) (omul : Opr P w K mg base C .Mult 6 (fun w => Fits w.1 w.2) (· * ·)) (k_total_of : Kn_total_of P w K mg base C) (mk : Mkr P w K mg base C 2) (oeq : EqK P w K mg base C 1) {f : Addr} {fd : FuncData} (Fd : FnP K "guess_in" st_guess_in f fd) : FnOk P w K mg base CX0 8 f fd ["value"] (sp_guess_in C) := by
  refine fn_pr Fd sc_guess_in (fun u => by first | rfl | (cases u <;> rfl)) (fun _ => False) (fun _ _ h => h.elim) (fun X u E hX hp hE => ?_)
  obtain ⟨cdv, A, outer, s, H, E', rfl, hr⟩ := hX
  refine PSs.nox ?_
  have nd := (sc_guess_in).nd
  replace hr : Room 7 (cxOf CX0 P w K mg base N_guess_in "guess_in" (defScope st_guess_in) f cdv A outer s H E').nox.A := hr
  rename List (Rat × Rat) => ps
  have hl : ps.length ≤ 1000 := by have := hp.hi; omega
  obtain ⟨t2, g2⟩ := Z.parts
  refine js_seq (G1 := G0 [IsSG C ps] 7) (js_if (b1 := false) (jt_eq (PW.pt (jw_or (b1 := false) (jt_not (b1 := true) (jt_val (pt_val (jc k_is_list (hr.mono (by decide)) () (ja_cons (je_conv (jv 0 (R := IsSG C ps)) sq_lt) ja_nil) trivial)))) fun _ => jw_or (b1 := false) (b2 := false) (jt_eq (jt_not (jt_chain (pt_chain op_le op_le jI (jbB call_len Z.len boot_len (ja_cons (jv 0 (R := IsSG C ps)) ja_nil) rc_lenS) (jgI g2)) rop_le rop_le)) ?_) fun _ => jw_or1 (jt_not (b1 := true) (jt_val (pt_val (je_eq (jbB (cr_all rfl) Z.all boot_all (ja_cons (je_m (jlc (Ry := IsB) (fun _ => true) [("part", 5)] nd (ji_seq (i := 0) (Rx := IsPn C) (xs := ps) (pi_list (pv 0)) (pi_tup (pv 0)) rfl) (fun s H C' cl fp x => jg1 5 nd) (fun s H C' cl fp x hx => jc k_is_part (hr.mono (by decide)) x (ja_cons (jv 5) ja_nil) (hp.part x hx)) (line_of hl))) ja_nil) rc_all) (by rw [all_true]))))))) rfl) (fun h => nomatch h) (fun _ => js_nil rfl)) ?_
  · have h1 := hp.lo
    have h2 := hp.hi
    simp only [Bool.not_eq_false', Bool.and_eq_true, decide_eq_true_eq]
    omega
  refine js_seq (jslc (i := 1) (Ry := IsPq C) (fun p => p) [("chance", 2), ("worth", 6)] nd (ji_seq (i := 0) (Rx := IsPn C) (xs := ps) (pi_list (pv 0)) (pi_tup (pv 0)) rfl) (fun s H C' cl fp x => jg2 2 6 nd) (fun s H C' cl fp x hx => je_tup (pe_tup (ja_cons (jc k_ratio_of (hr.mono (by decide)) x.1 (ja_cons (jv 2) ja_nil) trivial) (ja_cons (jc k_ratio_of (hr.mono (by decide)) x.2 (ja_cons (jv 6) ja_nil) trivial) ja_nil)))) (line_of hl)) ?_
  rw [List.map_id']
  refine js_frz (i := 1) rfl ?_
  refine js_seq (G1 := [.fz (IsSG C ps), .fz (IsGQ C ps), .un, .un, .un, .un, .un]) (js_if (b1 := false) (jt_not (b1 := true) (jt_val (pt_val (je_eq (jbB (cr_all rfl) Z.all boot_all (ja_cons (je_m (jlc (Ry := IsB) (fun _ => true) [("near", 4), ("far", 3)] nd (ji_zip (Rx := IsPq C) (Ry := IsPq C) (xs := ps) (ys := ps.drop 1) (pi_zip rfl Z.zip (ja_cons (jv 1) (ja_cons (je_m (jm_slice (pe_slice sl_list (jv 1 (R := IsGQ C ps)) (jo_some (jI (i := ((1 : Nat) : Int)))) jo_none) (cut_from _ 1 ps rfl).symm)) ja_nil)))) (fun s H C' cl fp x => jg2 4 3 nd) (fun s H C' cl fp x hx => ?_) (line_of (m := 1000) (by rw [List.length_zip]; omega)))) ja_nil) rc_all) (by rw [all_true]))))) (fun h => nomatch h) (fun _ => js_nil rfl)) ?_
  · obtain ⟨m1, m2⟩ := List.of_mem_zip hx
    have m3 := List.mem_of_mem_drop m2
    refine jmeth mbelow (hr.mono (by decide)) (x.1.2, x.2.2) (je_op (pe_ix ix_tup (jv 4 (R := IsPq C x.1)) jI (fun _ _ => rfl)) (rop_ixT (j := 1) rfl)) (ja_cons (je_conv (je_op (pe_ix ix_tup (jv 3 (R := IsPq C x.2)) jI (fun _ _ => rfl)) (rop_ixT (j := 1) rfl)) isQ_nm) ja_nil) rfl ((hp.sz _ m1).2.fits (hp.sz _ m3).2 (by decide)) ?_
    show IsB (decide (x.1.2 < x.2.2)) = IsB true
    rw [decide_eq_true (hp.inc x hx)]
  have f1 : FitsL 0 (ps.map fun p => p.1) := FitsL.zero (n := 100) (fun x hx => by
    obtain ⟨p, hp', rfl⟩ := List.mem_map.mp hx
    exact (hp.sz p hp').1) (by rw [List.length_map]; have := hp.hi; omega)
  have f2 : FitsL 0 (ps.map fun p => p.1 * p.2) := FitsL.zero (n := 200) (fun x hx => by
    obtain ⟨p, hp', rfl⟩ := List.mem_map.mp hx
    exact (hp.sz p hp').1.mul (hp.sz p hp').2) (by rw [List.length_map]; have := hp.hi; omega)
  refine js_seq (G1 := [.fz (IsSG C ps), .fz (IsGQ C ps), .un, .un, .un, .un, .un]) (js_if (b1 := false) (jt_eq (jneQ oeq (hr.mono (by decide)) (jc k_total_of (hr.mono (by decide)) (ps.map fun p => p.1) (ja_cons (je_m (jlc (Ry := IsQ C) (fun p : Rat × Rat => p.1) [("chance", 2), ("worth", 6)] nd (ji_list (Rx := IsPq C) (xs := ps) (pi_list (jv 1))) (fun s H C' cl fp x => jg2 2 6 nd) (fun s H C' cl fp x hx => jv 2) (line_of hl))) ja_nil) f1) (jmk1 mk (hr.mono (by decide)) (ja_cons jI ja_nil))) ?_) (fun h => nomatch h) (fun _ => js_nil rfl)) ?_
  · rw [hp.one]
    rfl
  refine js_one (js_ret (je_if (b1 := true) (jt_eq (jteqQ oeq (hr.mono (by decide)) (jc k_total_of (hr.mono (by decide)) (ps.map fun p => p.1 * p.2) (ja_cons (je_m (jlc (Ry := IsQ C) (fun p : Rat × Rat => p.1 * p.2) [("chance", 2), ("worth", 6)] nd (ji_list (Rx := IsPq C) (xs := ps) (pi_list (jv 1))) (fun s H C' cl fp x => jg2 2 6 nd) (fun s H C' cl fp x hx => joQ omul (hr.mono (by decide)) (jv 2) (jv 6) ((hp.sz x hx).1.fits (hp.sz x hx).2 (by decide))) (line_of hl))) ja_nil) f2) (jmk1 mk (hr.mono (by decide)) (ja_cons jI ja_nil))) ?_) (fun _ => jv 1) (fun h => nomatch h)))
  rw [hp.mean]
  rfl
end
end Gw
set_option maxHeartbeats 4000000
namespace Gw
open PySem PySem.Spec PyProof.Rows L2
theorem q_le (q r : Rat) : decide (q.num * r.den ≤ r.num * q.den) = decide (q ≤ r) := by
  rw [decide_eq_decide]
  exact (Rat.le_iff q r).symm
/-- what worths are above a number -/
def aboveL (g : List (Rat × Rat)) (x : Rat) : List Rat := (g.filter fun p => !decide (p.2 < x)).map fun p => p.1 * (p.2 - x)
def aboveR (g : List (Rat × Rat)) (x : Rat) : Rat := sumR (aboveL g x)
structure SzG (g : List (Rat × Rat)) : Prop where
  l : g.length ≤ 4
  z : ∀ p ∈ g, Sz 100 p.1 ∧ Sz 100 p.2
theorem GuessP.szg {g : List (Rat × Rat)} (h : GuessP g) : SzG g := ⟨h.hi, h.sz⟩
theorem SzG.al {g : List (Rat × Rat)} (h : SzG g) {x : Rat} (hx : Sz 100 x) : (∀ y ∈ aboveL g x, Sz 301 y) ∧ (aboveL g x).length ≤ 4 := by
  refine ⟨fun y hy => ?_, ?_⟩
  · obtain ⟨p, hp, rfl⟩ := List.mem_map.mp hy
    have hp := (List.mem_filter.mp hp).1
    exact (h.z p hp).1.mul ((h.z p hp).2.sub hx)
  · unfold aboveL
    rw [List.length_map]
    exact Nat.le_trans (List.length_filter_le _ _) h.l
theorem SzG.ar {g : List (Rat × Rat)} (h : SzG g) {x : Rat} (hx : Sz 100 x) : Sz 1300 (aboveR g x) := by
  obtain ⟨a, b⟩ := h.al hx
  exact (sz_sumR a).mono (by omega)
/-- the first hinge among the worths of the second guess -/
def hgP (g o : List (Rat × Rat)) (p : Rat × Rat) : Bool := decide (aboveR o p.2 < aboveR g p.2)
def hgO (g o : List (Rat × Rat)) : Option Rat := (o.find? (hgP g o)).map (·.2)
def IsOQ (C : Addr) : Option Rat → V → Hp → Prop
  | none => IsN
  | some q => IsQ C q
theorem find_at {α : Type} {f : α → Bool} {xs : List α} {i : Nat} {x : α} (hi : xs[i]? = some x) (h1 : ∀ y ∈ xs.take i, f y = false) (h2 : f x = true) : xs.find? f = some x := by
  obtain ⟨hl, e⟩ := List.getElem?_eq_some_iff.mp hi
  have h3 : xs = xs.take i ++ x :: xs.drop (i + 1) := by
    rw [← e, List.getElem_cons_drop, List.take_append_drop]
  have h4 : (xs.take i).find? f = none := List.find?_eq_none.mpr fun y hy => by rw [h1 y hy]; decide
  rw [h3, List.find?_append, h4, List.find?_cons_of_pos h2]
  rfl
section
variable {P : Program} {w : World} {K : PySem.W.Frag} {mg : Str → Option Value} {base : Heap} {C : Addr}
abbrev sp_Ris_at_most (C : Addr) : Sp := Pr (qA C) (fun w => Fits w.1 w.2) (fun w => IsB (decide (w.1 ≤ w.2)))
theorem ok_Ris_at_most (Z : Glo K mg C) (k_told_pair : Kn_told_pair P w K mg base C) {f : Addr} {fd : FuncData} (Fd : FnM K "is_at_most" "Ratio.is_at_most" st_Ris_at_most f fd) : FnOk P w K mg base CX0 6 f fd ["self", "other"] (sp_Ris_at_most C) := by
  refine fn_pr Fd sc_Ris_at_most (fun u => by first | rfl | (cases u <;> rfl)) (fun _ => False) (fun _ _ h => h.elim) (fun X u E hX hp hE => ?_)
  obtain ⟨cdv, A, outer, s, H, E', rfl, hr⟩ := hX
  refine PSs.nox ?_
  have nd := (sc_Ris_at_most).nd
  replace hr : Room 5 (cxOf CX0 P w K mg base N_Ris_at_most "Ratio.is_at_most" (defScope st_Ris_at_most) f cdv A outer s H E').nox.A := hr
  obtain ⟨q, r⟩ := u
  have hp : Fits q r := hp
  refine js_seq (js_asg (ps_asg (jc k_told_pair (hr.mono (by decide)) r (ja_cons (jv 1) ja_nil) trivial) (jg2 2 3 nd))) ?_
  refine js_one (js_ret (je_eq (je_op (pe_cmpR op_le (je_op (pe_op op_mulW (je_top Z.F (jv 0)) (jv 3)) (rop_mulW (fits_m1 hp))) (je_op (pe_op op_mulW (jv 2) (je_bot Z.F (jv 0))) (rop_mulW (fits_m2 hp))) (nomark _)) rop_le) ?_))
  rw [q_le]
abbrev sp_want_guess (C : Addr) : Sp := Pr (ι := List (Rat × Rat)) (fun w => [IsSG C w]) GuessP (fun w => IsGQ C w)
abbrev Kn_want_guess (P : Program) (w : World) (K : PySem.W.Frag) (mg : Str → Option Value) (base : Heap) (C : Addr) : Prop := Kn P w K mg base "want_guess" 9 ["value"] (sp_want_guess C)
theorem ok_want_guess (Z : Glo K mg C) (k_guess_in : Kn_guess_in P w K mg base C) {f : Addr} {fd : FuncData} (Fd : FnP K "want_guess" st_want_guess f fd) : FnOk P w K mg base CX0 9 f fd ["value"] (sp_want_guess C) := by
  refine fn_pr Fd sc_want_guess (fun u => by first | rfl | (cases u <;> rfl)) (fun _ => False) (fun _ _ h => h.elim) (fun X u E hX hp hE => ?_)
  obtain ⟨cdv, A, outer, s, H, E', rfl, hr⟩ := hX
  refine PSs.nox ?_
  have nd := (sc_want_guess).nd
  replace hr : Room 8 (cxOf CX0 P w K mg base N_want_guess "want_guess" (defScope st_want_guess) f cdv A outer s H E').nox.A := hr
  rename List (Rat × Rat) => ps
  refine js_seq (js_set (R := IsGQ C ps) (ps_set (i := 1) nd rfl (.inl rfl) (jc k_guess_in (hr.mono (by decide)) ps (ja_cons (jv 0) ja_nil) hp))) ?_
  refine js_seq (G1 := [.fz (IsSG C ps), .fz (IsGQ C ps)]) (js_if (b1 := false) (jt_cmp (pt_cmpR op_isN (jv 1 (R := IsGQ C ps)) jNon (nomark _)) (rop_isN (fun v F h => by
      obtain ⟨a, vs, rfl, _⟩ := h
      rfl))) (fun h => nomatch h) (fun _ => js_nil rfl)) ?_
  exact js_one (js_ret (jv 1))
abbrev sp_above (C : Addr) : Sp := Pr (ι := List (Rat × Rat) × Rat) (fun w => [IsGQ C w.1, IsQ C w.2]) (fun w => SzG w.1 ∧ Sz 100 w.2) (fun w => IsQ C (aboveR w.1 w.2))
abbrev Kn_above (P : Program) (w : World) (K : PySem.W.Frag) (mg : Str → Option Value) (base : Heap) (C : Addr) : Prop := Kn P w K mg base "above" 8 ["guess", "number"] (sp_above C)
theorem ok_above (Z : Glo K mg C) (omul : Opr P w K mg base C .Mult 6 (fun w => Fits w.1 w.2) (· * ·)) (osub : Opr P w K mg base C .Sub 6 (fun w => Fits w.1 w.2) (· - ·)) (k_total_of : Kn_total_of P w K mg base C) (mbelow : MethK P w K mg base C "is_below" 6 ["self", "other"] (sp_Ris_below C)) {f : Addr} {fd : FuncData} (Fd : FnP K "above" st_above f fd) : FnOk P w K mg base CX0 8 f fd ["guess", "number"] (sp_above C) := by
  refine fn_pr Fd sc_above (fun u => by first | rfl | (cases u <;> rfl)) (fun _ => False) (fun _ _ h => h.elim) (fun X u E hX hp hE => ?_)
  obtain ⟨cdv, A, outer, s, H, E', rfl, hr⟩ := hX
  refine PSs.nox ?_
  have nd := (sc_above).nd
  replace hr : Room 7 (cxOf CX0 P w K mg base N_above "above" (defScope st_above) f cdv A outer s H E').nox.A := hr
  obtain ⟨g, x⟩ := u
  obtain ⟨h1, h2⟩ : SzG g ∧ Sz 100 x := hp
  have hl := h1.l
  obtain ⟨a1, a2⟩ := h1.al h2
  refine js_one (js_ret (jc k_total_of (hr.mono (by decide)) (aboveL g x) (ja_cons (je_m (jm_lc (own := [("chance", 2), ("worth", 3)]) (Ry := IsQ C) (fun p : Rat × Rat => !decide (p.2 < x)) (fun p : Rat × Rat => p.1 * (p.2 - x)) rfl nd (ji_list (Rx := IsPq C) (xs := g) (pi_list (jv 0))) (blkOk_by (by kernel_rfl)) (by decide) (fun s H C' cl fp p => jg2 2 3 nd) (fun s H C' cl fp p hx => jts_one (jt_not (jt_val (pt_val (jmeth mbelow (hr.mono (by decide)) (p.2, x) (jv 3) (ja_cons (je_conv (jv 1 (R := IsQ C x)) isQ_nm) ja_nil) rfl ((h1.z p hx).2.fits h2 (by decide))))))) (fun s H C' cl fp p hx _ => joQ (q := p.1) (r := p.2 - x) omul (hr.mono (by decide)) (jv 2 (R := IsQ C p.1)) (joQ (q := p.2) (r := x) osub (hr.mono (by decide)) (jv 3 (R := IsQ C p.2)) (jv 1 (R := IsQ C x)) ((h1.z p hx).2.fits h2 (by decide))) ((h1.z p hx).1.fits ((h1.z p hx).2.sub h2) (by decide))) (line_of (m := 1000) (by omega)))) ja_nil) (FitsL.zero a1 (by omega))))
abbrev sp_is_hinge_of (C : Addr) : Sp := Pr (ι := List (Rat × Rat) × List (Rat × Rat) × Rat) (fun w => [IsGQ C w.1, IsGQ C w.2.1, IsQ C w.2.2]) (fun w => SzG w.1 ∧ SzG w.2.1 ∧ Sz 100 w.2.2) (fun w => IsB (decide (aboveR w.2.1 w.2.2 < aboveR w.1 w.2.2)))
abbrev Kn_is_hinge_of (P : Program) (w : World) (K : PySem.W.Frag) (mg : Str → Option Value) (base : Heap) (C : Addr) : Prop := Kn P w K mg base "is_hinge_of" 9 ["guess", "other", "number"] (sp_is_hinge_of C)
theorem ok_is_hinge_of (Z : Glo K mg C) (k_above : Kn_above P w K mg base C) (mbelow : MethK P w K mg base C "is_below" 6 ["self", "other"] (sp_Ris_below C)) {f : Addr} {fd : FuncData} (Fd : FnP K "is_hinge_of" st_is_hinge_of f fd) : FnOk P w K mg base CX0 9 f fd ["guess", "other", "number"] (sp_is_hinge_of C) := by
  refine fn_pr Fd sc_is_hinge_of (fun u => by first | rfl | (cases u <;> rfl)) (fun _ => False) (fun _ _ h => h.elim) (fun X u E hX hp hE => ?_)
  obtain ⟨cdv, A, outer, s, H, E', rfl, hr⟩ := hX
  refine PSs.nox ?_
  have nd := (sc_is_hinge_of).nd
  replace hr : Room 8 (cxOf CX0 P w K mg base N_is_hinge_of "is_hinge_of" (defScope st_is_hinge_of) f cdv A outer s H E').nox.A := hr
  obtain ⟨g, o, x⟩ := u
  obtain ⟨h1, h2, h3⟩ : SzG g ∧ SzG o ∧ Sz 100 x := hp
  exact js_one (js_ret (jmeth mbelow (hr.mono (by decide)) (aboveR o x, aboveR g x) (jc k_above (hr.mono (by decide)) (o, x) (ja_cons (jv 1) (ja_cons (jv 2) ja_nil)) ⟨h2, h3⟩) (ja_cons (je_conv (jc k_above (hr.mono (by decide)) (g, x) (ja_cons (jv 0) (ja_cons (jv 2) ja_nil)) ⟨h1, h3⟩) isQ_nm) ja_nil) rfl ((h2.ar h3).fits (h1.ar h3) (by decide))))
abbrev sp_hinge_of (C : Addr) : Sp := Pr (ι := List (Rat × Rat) × List (Rat × Rat)) (fun w => [IsGQ C w.1, IsGQ C w.2]) (fun w => SzG w.1 ∧ SzG w.2) (fun w => IsOQ C (hgO w.1 w.2))
abbrev Kn_hinge_of (P : Program) (w : World) (K : PySem.W.Frag) (mg : Str → Option Value) (base : Heap) (C : Addr) : Prop := Kn P w K mg base "hinge_of" 10 ["guess", "other"] (sp_hinge_of C)
theorem ok_hinge_of (Z : Glo K mg C) (k_is_hinge_of : Kn_is_hinge_of P w K mg base C) {f : Addr} {fd : FuncData} (Fd : FnP K "hinge_of" st_hinge_of f fd) : FnOk P w K mg base CX0 10 f fd ["guess", "other"] (sp_hinge_of C) := by
  refine fn_pr Fd sc_hinge_of (fun u => by first | rfl | (cases u <;> rfl)) (fun _ => False) (fun _ _ h => h.elim) (fun X u E hX hp hE => ?_)
  obtain ⟨cdv, A, outer, s, H, E', rfl, hr⟩ := hX
  refine PSs.nox ?_
  have nd := (sc_hinge_of).nd
  replace hr : Room 9 (cxOf CX0 P w K mg base N_hinge_of "hinge_of" (defScope st_hinge_of) f cdv A outer s H E').nox.A := hr
  obtain ⟨g, o⟩ := u
  obtain ⟨h1, h2⟩ : SzG g ∧ SzG o := hp
  refine js_cons (N1 := fun G => ∃ s t, hgO g o = none ∧ G = [.fz (IsGQ C g), .fz (IsGQ C o), s, t]) (js_for PassesOwn.never rfl (ji_list (Rx := IsPq C) (xs := o) (pi_list (jv 1))) (fun x => jg2 2 3 nd) (fun i G => ∃ s t, (∀ p ∈ o.take i, hgP g o p = false) ∧ G = [.fz (IsGQ C g), .fz (IsGQ C o), s, t]) ⟨_, _, fun p hp => absurd hp (by simp), rfl⟩ ?_ (fun G1 h => ?_)) ?_
  · rintro i p G1 hi ⟨s, t, ha, rfl⟩
    have hm := List.mem_of_getElem? hi
    refine js_one (js_if (b1 := hgP g o p) (jt_val (pt_val (jc k_is_hinge_of hr (g, o, p.2) (ja_cons (jv 0) (ja_cons (jv 1) (ja_cons (jv 3 (R := IsQ C p.2)) ja_nil))) ⟨h1, h2, (h2.z p hm).2⟩))) (fun hb => ?_) (fun hb => js_nil ⟨_, _, fun q hq => ?_, rfl⟩))
    · have e : hgO g o = some p.2 := by
        unfold hgO
        rw [find_at hi ha hb]
        rfl
      exact js_one (js_ret (je_eq (jv 3 (R := IsQ C p.2)) (by rw [e]; rfl)))
    · rw [List.take_add_one, hi] at hq
      rcases List.mem_append.mp hq with hq | hq
      · exact ha q hq
      · rw [List.mem_singleton.mp hq]
        exact hb
  · obtain ⟨s, t, ha, rfl⟩ := h
    rw [List.take_length] at ha
    refine ⟨s, t, ?_, rfl⟩
    unfold hgO
    rw [List.find?_eq_none.mpr fun p hp => by rw [ha p hp]; decide]
    rfl
  · rintro _ ⟨s, t, e, rfl⟩
    exact js_one (js_ret (je_eq jNon (by rw [e]; rfl)))
abbrev sp_is_hinge (C : Addr) : Sp := Pr (ι := List (Rat × Rat) × List (Rat × Rat) × Rat) (fun w => [IsSG C w.1, IsSG C w.2.1, IsQ C w.2.2]) (fun w => GuessP w.1 ∧ GuessP w.2.1 ∧ Sz 100 w.2.2) (fun w => IsB (decide (aboveR w.2.1 w.2.2 < aboveR w.1 w.2.2)))
abbrev Kn_is_hinge (P : Program) (w : World) (K : PySem.W.Frag) (mg : Str → Option Value) (base : Heap) (C : Addr) : Prop := Kn P w K mg base "is_hinge" 11 ["guess", "other", "value"] (sp_is_hinge C)
theorem ok_is_hinge (Z : Glo K mg C) (k_want_guess : Kn_want_guess P w K mg base C) (k_is_hinge_of : Kn_is_hinge_of P w K mg base C) (k_is_number : Kn_is_number P w K mg base C) (k_ratio_of : Kn_ratio_of P w K mg base C) {f : Addr} {fd : FuncData} (Fd : FnP K "is_hinge" st_is_hinge f fd) : FnOk P w K mg base CX0 11 f fd ["guess", "other", "value"] (sp_is_hinge C) := by
  refine fn_pr Fd sc_is_hinge (fun u => by first | rfl | (cases u <;> rfl)) (fun _ => False) (fun _ _ h => h.elim) (fun X u E hX hp hE => ?_)
  obtain ⟨cdv, A, outer, s, H, E', rfl, hr⟩ := hX
  refine PSs.nox ?_
  have nd := (sc_is_hinge).nd
  replace hr : Room 10 (cxOf CX0 P w K mg base N_is_hinge "is_hinge" (defScope st_is_hinge) f cdv A outer s H E').nox.A := hr
  obtain ⟨g, o, x⟩ := u
  obtain ⟨h1, h2, h3⟩ : GuessP g ∧ GuessP o ∧ Sz 100 x := hp
  refine js_seq (js_par (i := 3) (j := 4) (Ra := IsGQ C g) (Rb := IsGQ C o) (ps_par (i := 3) (j := 4) rfl nd rfl rfl (by decide) rfl rfl (pa_cons (jc k_want_guess (hr.mono (by decide)) g (ja_cons (jv 0) ja_nil) h1) (pa_cons (jc k_want_guess (hr.mono (by decide)) o (ja_cons (jv 1) ja_nil) h2) pa_nil)) rfl)) ?_
  exact js_one (js_ret (je_and (b1 := true) (jc k_is_number (hr.mono (by decide)) x (ja_cons (je_conv (jv 2 (R := IsQ C x)) isQ_nm) ja_nil) trivial) fun _ => pe_one (jc k_is_hinge_of (hr.mono (by decide)) (g, o, x) (ja_cons (jv 3) (ja_cons (jv 4) (ja_cons (jc k_ratio_of (hr.mono (by decide)) x (ja_cons (je_conv (jv 2 (R := IsQ C x)) isQ_nm) ja_nil) trivial) ja_nil))) ⟨h1.szg, h2.szg, h3⟩)))
end
end Gw
set_option maxHeartbeats 4000000
/-! f-strings of texts and ints. -/
namespace Gw
open PySem PySem.Spec PyProof.Rows L2
section
variable {X : Cx} {E : En} {G : List Sl} {e : Expr} {pos : Pos} {t : Str} {i : Int}
theorem je_fmtS (h : PE X e (tE E G (IsS t))) (hz : t.length ≤ sizeLine) : PE X (.FormattedValue e (-1) none pos) (tE E G (IsS t)) := PE_imp (pe_fmt h) fun σ H Q ⟨F, S, k⟩ =>
  ⟨F, S, fun v F' H' g u => .inl ⟨t, u.here, hz, k _ F' H' g fun _ _ => rfl⟩⟩
theorem je_fmtI (h : PE X e (tE E G (IsI i))) (hz : i.natAbs.log2 < 1920) : PE X (.FormattedValue e (-1) none pos) (tE E G (IsS (toString i))) := PE_imp (pe_fmt h) fun σ H Q ⟨F, S, k⟩ =>
  ⟨F, S, fun v F' H' g u => .inr ⟨i, u.here, hz, k _ F' H' g fun _ _ => rfl⟩⟩
/-- texts put together -/
def catS (ss : List Str) : Str := ss.foldl (· ++ ·) Str.empty
theorem cat_len : ∀ (ss : List Str) (acc : Str), (ss.foldl (· ++ ·) acc).length = acc.length + (ss.map Str.length).sum
  | [], acc => by simp
  | s :: ss, acc => by
    rw [List.foldl_cons, cat_len ss, strLen_append, List.map_cons, List.sum_cons]
    omega
theorem tjs_of : ∀ (ss : List Str) (acc : Str) (σ : L2.St) (H : Hp) (F : Hp) (Q : Str → Hp → Prop), acc.length + (ss.map Str.length).sum ≤ sizeLine → Sat E G σ F H → (∀ F' H', Gr E.pp F H F' H' → Q (ss.foldl (· ++ ·) acc) H') → tJs (ss.map fun s => tE E G (IsS s)) acc σ H Q
  | [], acc, σ, H, F, Q, _, S, k => k F H S.refl
  | s :: ss, acc, σ, H, F, Q, hz, S, k => by
    rw [List.map_cons, List.sum_cons] at hz
    refine ⟨F, S, fun v F' H' g u => ⟨s, u.here, by rw [strLen_append]; omega, tjs_of ss (acc ++ s) σ H' F' Q (by rw [strLen_append]; omega) (S.gr g) fun F2 H2 g2 => k F2 H2 (g.trans g2)⟩⟩
theorem je_joined {v1 v2 : Expr} {rest : List Expr} {ss : List Str} (h : PJ X (v1 :: v2 :: rest) (ss.map fun s => tE E G (IsS s))) (hz : (ss.map Str.length).sum ≤ sizeLine) : PE X (.JoinedStr (v1 :: v2 :: rest) pos) (tE E G (IsS (catS ss))) :=
  PE_imp (pe_joined h) fun σ H Q ⟨F, S, k⟩ => tjs_of ss Str.empty σ H F _ (by show 0 + _ ≤ _; omega) S fun F' H' g => k _ F' H' g fun _ _ => rfl
end
end Gw
set_option maxHeartbeats 1000000
namespace Gw
open PySem PySem.Spec PyProof.Rows L2
/-! ### how ints and Ratios of any size are written -/
theorem jS {X : Cx} {E : En} {G : List Sl} {pos : Pos} {s : Str} {j : Nat} : PE X (.Constant (.str s) j pos) (tE E G (IsS s)) := je_c pe_str fun _ => rfl
theorem catS_len (ss : List Str) : (catS ss).length = (ss.map Str.length).sum := by
  have h := cat_len ss Str.empty
  unfold catS
  rw [h]
  show 0 + _ = _
  omega
def rStrI : List V → Hp → VK → Prop := fun xs H Q => ∃ i, xs = [.int i] ∧ i.natAbs.log2 < 1920 ∧ Q (.str (toString i)) H
theorem rc_strI {pp : Option Addr} {i : Int} (h : i.natAbs.log2 < 1920) : RC pp rStrI [IsI i] (IsS (toString i)) := fun vs F H Q ok a k => by
  cases a with
  | cons r t =>
    cases t
    exact ⟨i, by rw [r.here], h, k _ F H ok.gr fun F' _ => rfl⟩
theorem je_sliceT {X : Cx} {E : En} {G : List Sl} {e : Expr} {z : Str} {lo hi : Option Int} (p : PE X e (tSl L2.rSlS (tE E G (IsS z)) (tO E G lo) (tO E G hi))) (hz : z.length ≤ sizeLine) : PE X e (tE E G (IsS (cutS z lo hi))) := PE_imp p fun σ H Q ⟨F, S, k⟩ =>
  ⟨F, S, fun x F1 H1 g1 u1 => ⟨F1, S.gr g1, fun F2 H2 g2 => ⟨F2, S.gr (g1.trans g2), fun F3 H3 g3 => ⟨z, u1.here, hz, k _ F3 H3 ((g1.trans g2).trans g3) fun _ _ => rfl⟩⟩⟩⟩
/-- the part of sixty digits -/
@[irreducible] def p60 : Int := 10 ^ 60
theorem p60_eq : p60 = 10 ^ 60 := by unfold p60; rfl
theorem p60_pos : 0 < p60 := by rw [p60_eq]; decide
theorem p60_nat : p60.natAbs < 2 ^ 200 := by rw [p60_eq]; decide
/-- sixty digits -/
def chT (m : Int) : Str := cutS (toString (m % p60 + p60)) (some ((1 : Nat) : Int)) none
def digW : Nat → Int → Str → Int × Str
  | 0, m, t => (m, t)
  | n + 1, m, t => if p60 ≤ m then digW n (m.fdiv p60) (catS [chT m, t]) else (m, t)
def absI (i : Int) : Int := if 0 ≤ i then i else 0 - i
def digL (i : Int) : List Str := [(if i < 0 then ("-" : Str) else ""), Str.ofString (toString (digW 12 (absI i) "").1), (digW 12 (absI i) "").2]
def digS (i : Int) : Str := catS (digL i)
def repL (q : Rat) : List Str := ["Ratio(", digS q.num, ", ", digS (q.den : Int), ")"]
def repS (q : Rat) : Str := catS (repL q)
def strS (q : Rat) : Str := if q.den = 1 then digS q.num else catS [digS q.num, "/", digS (q.den : Int)]
def big : Nat → Int
  | 0 => 1
  | n + 1 => big n * p60
theorem fdiv_big {m : Int} {n : Nat} (h0 : 0 ≤ m) (h : m < big (n + 1)) : 0 ≤ m.fdiv p60 ∧ m.fdiv p60 < big n := by
  rw [Int.fdiv_eq_ediv_of_nonneg _ (Int.le_of_lt p60_pos)]
  exact ⟨Int.ediv_nonneg h0 (Int.le_of_lt p60_pos), Int.ediv_lt_of_lt_mul p60_pos h⟩
theorem log2_61 {i : Int} (h : i.natAbs < 2 ^ 201) : i.natAbs.log2 < 1920 := Nat.lt_trans (log2_lt (n := 201) (by decide) h) (by decide)
theorem mod60 (m : Int) : 0 ≤ m % p60 ∧ m % p60 < p60 := ⟨Int.emod_nonneg _ (by have := p60_pos; omega), Int.emod_lt_of_pos _ p60_pos⟩
theorem ch_nat (m : Int) : (m % p60 + p60).natAbs < 2 ^ 201 := by
  have h := mod60 m
  have p := p60_nat
  have : (2 : Nat) ^ 201 = 2 * 2 ^ 200 := by decide
  omega
theorem ch_len (m : Int) : (toString (m % p60 + p60)).length ≤ 62 ∧ (chT m).length ≤ 62 := by
  have h := mod60 m
  have p := p60_eq
  have e := int_text_length_le10 (k := 61) (a := m % p60 + p60) (by decide) (by
    have q : p60.natAbs = 10 ^ 60 := by rw [p]; decide
    have : (10 : Nat) ^ 61 = 10 * 10 ^ 60 := by decide
    generalize (10 : Nat) ^ 60 = z at *
    generalize (10 : Nat) ^ 61 = y at *
    have pp := p60_pos
    omega)
  have e1 : (toString (m % p60 + p60)).length ≤ 62 := by omega
  refine ⟨e1, Nat.le_trans (cutS_length _ _ _) ?_⟩
  rw [PySem.ofString_length]
  exact e1
theorem digW_spec : ∀ (n : Nat) (m : Int) (t : Str), 0 ≤ m → m < big (n + 1) → 0 ≤ (digW n m t).1 ∧ (digW n m t).1 < p60 ∧ (digW n m t).2.length ≤ t.length + 62 * n
  | 0, m, t, h0, h => by
    have e : big (0 + 1) = p60 := by show 1 * p60 = p60; rw [Int.one_mul]
    rw [e] at h
    exact ⟨h0, h, Nat.le_refl _⟩
  | n + 1, m, t, h0, h => by
    unfold digW
    by_cases c : p60 ≤ m
    · rw [if_pos c]
      obtain ⟨a, b⟩ := fdiv_big h0 h
      obtain ⟨x, y, z⟩ := digW_spec n (m.fdiv p60) (catS [chT m, t]) a b
      have e : (catS [chT m, t]).length = (chT m).length + (t.length + 0) := catS_len _
      have := (ch_len m).2
      exact ⟨x, y, by omega⟩
    · rw [if_neg c]
      exact ⟨h0, by omega, by show t.length ≤ _; omega⟩
theorem digW_stop : ∀ (n : Nat) (m : Int) (t : Str), m < p60 → digW n m t = (m, t)
  | 0, m, t, _ => rfl
  | n + 1, m, t, h => by
    unfold digW
    rw [if_neg (by omega)]
def Dig (i : Int) : Prop := i.natAbs < 2 ^ 2300
theorem big13 {i : Int} (h : Dig i) : 0 ≤ absI i ∧ absI i < big 13 := by
  unfold Dig at h
  have e : ((2 : Nat) ^ 2300 : Nat) ≤ (big 13).natAbs := by
    unfold big big big big big big big big big big big big big big
    rw [p60_eq]
    decide +kernel
  have e2 : 0 ≤ big 13 := by
    have all : ∀ n, 0 ≤ big n := fun n => by
      induction n with
      | zero => decide
      | succ n ih => exact Int.mul_nonneg ih (Int.le_of_lt p60_pos)
    exact all 13
  unfold absI
  generalize (2 : Nat) ^ 2300 = z at *
  generalize big 13 = y at *
  constructor <;> split <;> omega
theorem nat61 {i : Int} (h0 : 0 ≤ i) (h : i < p60) : i.natAbs < 2 ^ 201 := by
  have := p60_nat
  have : (2 : Nat) ^ 201 = 2 * 2 ^ 200 := by decide
  generalize (2 : Nat) ^ 201 = z at *
  generalize (2 : Nat) ^ 200 = y at *
  omega
theorem fm_len {i : Int} (h0 : 0 ≤ i) (h : i < p60) : (Str.ofString (toString i)).length ≤ 61 := by
  have e := int_text_length_le10 (k := 60) (a := i) (by decide) (by
    have q : p60.natAbs = 10 ^ 60 := by rw [p60_eq]; decide
    generalize (10 : Nat) ^ 60 = z at *
    omega)
  rw [PySem.ofString_length]
  omega
theorem digS_len {i : Int} (h : Dig i) : (digS i).length ≤ 900 := by
  obtain ⟨a, b⟩ := big13 h
  obtain ⟨x, y, z⟩ := digW_spec 12 _ "" a b
  rw [digS, catS_len]
  have e1 : (if i < 0 then ("-" : Str) else "").length ≤ 1 := by split <;> decide
  have e2 := fm_len x y
  have e3 : ("" : Str).length = 0 := rfl
  show (if i < 0 then ("-" : Str) else "").length + (Str.length _ + (Str.length _ + 0)) ≤ 900
  omega
/-- what may be written -/
def Wd (q : Rat) : Prop := Sz 2300 q
theorem Wd.n {q : Rat} (h : Wd q) : Dig q.num := h.1
theorem Wd.d {q : Rat} (h : Wd q) : Dig (q.den : Int) := by
  unfold Dig
  rw [Int.natAbs_natCast]
  exact h.2
theorem repS_len {q : Rat} (h : Wd q) : (repS q).length ≤ 1900 := by
  have h1 := digS_len h.n
  have h2 := digS_len h.d
  rw [repS, catS_len]
  show 6 + ((digS q.num).length + (2 + ((digS (q.den : Int)).length + (1 + 0)))) ≤ 1900
  omega
theorem strS_len {q : Rat} (h : Wd q) : (strS q).length ≤ 1900 := by
  have h1 := digS_len h.n
  have h2 := digS_len h.d
  unfold strS
  split
  · omega
  · rw [catS_len]
    show (digS q.num).length + (1 + ((digS (q.den : Int)).length + 0)) ≤ 1900
    omega
section
variable {P : Program} {w : World} {K : PySem.W.Frag} {mg : Str → Option Value} {base : Heap} {C : Addr}
abbrev sp_digits_of (_ : Addr) : Sp := Pr (ι := Int) (fun i => [IsI i]) Dig (fun i => IsS (digS i))
abbrev Kn_digits_of (P : Program) (w : World) (K : PySem.W.Frag) (mg : Str → Option Value) (base : Heap) (C : Addr) : Prop := Kn P w K mg base "digits_of" 1 ["number"] (sp_digits_of C)
theorem ok_digits_of (Z : Glo K mg C)  {f : Addr} {fd : FuncData} (Fd : FnP K "digits_of" st_digits_of f fd) : FnOk P w K mg base CX0 1 f fd ["number"] (sp_digits_of C) := by
  refine fn_pr Fd sc_digits_of (fun u => by first | rfl | (cases u <;> rfl)) (fun _ => False) (fun _ _ h => h.elim) (fun X u E hX hp hE => ?_)
  obtain ⟨cdv, A, outer, s, H, E', rfl, hr⟩ := hX
  refine PSs.nox ?_
  have nd := (sc_digits_of).nd
  replace hr : Room 0 (cxOf CX0 P w K mg base N_digits_of "digits_of" (defScope st_digits_of) f cdv A outer s H E').nox.A := hr
  rename Int => i
  have hp : Dig i := hp
  obtain ⟨tp, gp⟩ := Z.part
  rw [← p60_eq] at gp
  obtain ⟨b0, b1⟩ := big13 hp
  obtain ⟨x0, x1, x2⟩ := digW_spec 12 _ "" b0 b1
  have hsl : sizeLine = 2 ^ 24 := rfl
  have he0 : ("" : Str).length = 0 := rfl
  obtain ⟨m, hm⟩ : ∃ m, m = absI i := ⟨_, rfl⟩
  obtain ⟨D, hD⟩ : ∃ D, D = digW 12 m "" := ⟨_, rfl⟩
  rw [← hm] at b0 b1 x0 x1 x2
  rw [← hD] at x0 x1 x2
  refine js_seq (G1 := [.fz (IsI i), .fz (IsI m), .fz (IsS ""), .un, .un]) (js_par (i := 1) (j := 2) (Ra := IsI m) (Rb := IsS "") (ps_par (i := 1) (j := 2) rfl nd rfl rfl (by decide) rfl rfl (pa_cons (je_if (b1 := decide (0 ≤ i)) (jt_cmp (pt_cmpR op_ge (jv 0 (R := IsI i)) jI (nomark _)) rop_ge) (fun h => je_eq (jv 0 (R := IsI i)) (by rw [hm, absI, if_pos (of_decide_eq_true h)])) (fun h => je_eq (je_op (pe_op op_sub jI (jv 0 (R := IsI i))) rop_sub) (by rw [hm, absI, if_neg (of_decide_eq_false h)]))) (pa_cons jS pa_nil)) rfl)) ?_
  refine js_cons (N1 := fun G => ∃ s, G = [.fz (IsI i), .fz (IsI D.1), .fz (IsS D.2), s, .un]) (js_while PassesOwn.never (fun k G => ∃ n t s, 0 ≤ n ∧ n < big (k + 1) ∧ t.length + 62 * k ≤ 62 * 12 ∧ digW k n t = D ∧ G = [.fz (IsI i), .fz (IsI n), .fz (IsS t), s, .un]) (m0 := 12) ⟨m, "", _, b0, b1, by rw [he0]; omega, hD.symm, rfl⟩ ?_) ?_
  · rintro k G1 ⟨n, t, s, hn0, hn1, ht, hk, rfl⟩
    refine ⟨decide (p60 ≤ n), jt_cmp (pt_cmpR op_ge (jv 1 (R := IsI n)) (jgI gp) (nomark _)) rop_ge, fun h => ?_, fun h => ⟨s, ?_⟩⟩
    · have hge := of_decide_eq_true h
      obtain ⟨k, rfl⟩ : ∃ j, k = j + 1 := by
        cases k with
        | zero => exact absurd hn1 (by have : big (0 + 1) = p60 := by show 1 * p60 = p60; rw [Int.one_mul]
                                       rw [this]; omega)
        | succ k => exact ⟨k, rfl⟩
      have hc := ch_len n
      obtain ⟨f0, f1⟩ := fdiv_big hn0 hn1
      refine js_seq (js_set (i := 3) (R := IsI (n % p60 + p60)) (ps_set (i := 3) nd rfl (.inl rfl) (je_op (pe_op op_add (je_op (pe_op op_mod (jbT call_int1 Z.int boot_int (ja_cons (jv 1 (R := IsI n)) ja_nil) rc_intI) (jgI gp)) (rop_mod p60_pos)) (jgI gp)) rop_add))) ?_
      refine js_seq (js_set (i := 2) (R := IsS (catS [chT n, t])) (ps_set (i := 2) nd rfl (.inl rfl) (je_joined (ss := [chT n, t]) (.cons (je_fmtS (je_sliceT (pe_slice sl_str (jbT call_str_int Z.str boot_str (ja_cons (jv 3 (R := IsI (n % p60 + p60))) ja_nil) (rc_strI (log2_61 (ch_nat n)))) (jo_some (jI (i := ((1 : Nat) : Int)))) jo_none) (by rw [PySem.ofString_length, hsl]; exact Nat.le_trans hc.1 (by decide))) (by rw [hsl]; omega)) (.cons (je_fmtS (jv 2 (R := IsS t)) (by rw [hsl]; omega)) .nil)) (by rw [hsl]; show (chT n).length + (t.length + 0) ≤ _; omega)))) ?_
      refine js_one (js_N (js_set (i := 1) (R := IsI (n.fdiv (p60))) (ps_set (i := 1) nd rfl (.inl rfl) (je_op (pe_op op_fdW (jv 1 (R := IsI n)) (jgI gp)) (rop_fdW ⟨by have := p60_pos; omega, Nat.lt_trans (log2_lt (n := 200) (by decide) p60_nat) (by decide)⟩)))) ?_)
      rintro G' rfl
      refine ⟨k, Nat.lt_succ_self _, n.fdiv (p60), catS [chT n, t], _, f0, f1, ?_, ?_, rfl⟩
      · have e : (catS [chT n, t]).length = (chT n).length + (t.length + 0) := catS_len _
        omega
      · rw [← hk]
        show _ = (if p60 ≤ n then _ else _)
        rw [if_pos hge]
    · have hlt : n < p60 := by have := of_decide_eq_false h; omega
      rw [digW_stop k n t hlt] at hk
      rw [← hk]
  rintro _ ⟨s, rfl⟩
  refine js_seq (js_set (i := 4) (R := IsS (if i < 0 then ("-" : Str) else "")) (ps_set (i := 4) nd rfl (.inl rfl) (je_if (b1 := decide (i < 0)) (jt_cmp (pt_cmpR op_lt (jv 0 (R := IsI i)) jI (nomark _)) rop_lt) (fun h => je_eq jS (by rw [if_pos (of_decide_eq_true h)])) (fun h => je_eq jS (by rw [if_neg (of_decide_eq_false h)]))))) ?_
  have hl := digS_len hp
  rw [digS, catS_len] at hl
  have hd : digL i = [(if i < 0 then ("-" : Str) else ""), Str.ofString (toString D.1), D.2] := by rw [hD, hm]; rfl
  refine js_one (js_ret (je_eq (je_joined (ss := digL i) (by
    rw [hd]
    exact .cons (je_fmtS (jv 4) (by split <;> decide)) (.cons (je_fmtI (jv 1) (log2_61 (nat61 x0 x1))) (.cons (je_fmtS (jv 2) (by rw [hsl]; omega)) .nil))) (by rw [hsl]; omega)) rfl))
abbrev sp_R__repr__ (C : Addr) : Sp := Pr (ι := Rat) (fun q => [IsQ C q]) Wd (fun q => IsS (repS q))
theorem ok_R__repr__ (Z : Glo K mg C) (k_digits_of : Kn_digits_of P w K mg base C) {f : Addr} {fd : FuncData} (Fd : FnM K "__repr__" "Ratio.__repr__" st_R__repr__ f fd) : FnOk P w K mg base CX0 2 f fd ["self"] (sp_R__repr__ C) := by
  refine fn_pr Fd sc_R__repr__ (fun u => by first | rfl | (cases u <;> rfl)) (fun _ => False) (fun _ _ h => h.elim) (fun X u E hX hp hE => ?_)
  obtain ⟨cdv, A, outer, s, H, E', rfl, hr⟩ := hX
  refine PSs.nox ?_
  have nd := (sc_R__repr__).nd
  replace hr : Room 1 (cxOf CX0 P w K mg base N_R__repr__ "Ratio.__repr__" (defScope st_R__repr__) f cdv A outer s H E').nox.A := hr
  rename Rat => q
  have hp : Wd q := hp
  have hl := repS_len hp
  rw [repS, catS_len] at hl
  have hz : (900 : Nat) ≤ sizeLine := by rw [show sizeLine = 2 ^ 24 from rfl]; omega
  refine js_one (js_ret (je_eq (je_joined (ss := repL q) (.cons jS (.cons (je_fmtS (jc k_digits_of (hr.mono (by decide)) q.num (ja_cons (je_top Z.F (jv 0)) ja_nil) hp.n) (Nat.le_trans (digS_len hp.n) hz)) (.cons jS (.cons (je_fmtS (jc k_digits_of (hr.mono (by decide)) (q.den : Int) (ja_cons (je_bot Z.F (jv 0)) ja_nil) hp.d) (Nat.le_trans (digS_len hp.d) hz)) (.cons jS .nil))))) (by rw [show sizeLine = 2 ^ 24 from rfl]; omega)) rfl))
abbrev sp_R__str__ (C : Addr) : Sp := Pr (ι := Rat) (fun q => [IsQ C q]) Wd (fun q => IsS (strS q))
theorem ok_R__str__ (Z : Glo K mg C) (k_digits_of : Kn_digits_of P w K mg base C) {f : Addr} {fd : FuncData} (Fd : FnM K "__str__" "Ratio.__str__" st_R__str__ f fd) : FnOk P w K mg base CX0 2 f fd ["self"] (sp_R__str__ C) := by
  refine fn_pr Fd sc_R__str__ (fun u => by first | rfl | (cases u <;> rfl)) (fun _ => False) (fun _ _ h => h.elim) (fun X u E hX hp hE => ?_)
  obtain ⟨cdv, A, outer, s, H, E', rfl, hr⟩ := hX
  refine PSs.nox ?_
  have nd := (sc_R__str__).nd
  replace hr : Room 1 (cxOf CX0 P w K mg base N_R__str__ "Ratio.__str__" (defScope st_R__str__) f cdv A outer s H E').nox.A := hr
  rename Rat => q
  have hp : Wd q := hp
  have hl := strS_len hp
  have hz : (900 : Nat) ≤ sizeLine := by rw [show sizeLine = 2 ^ 24 from rfl]; omega
  refine js_cons (N1 := fun G => q.den ≠ 1 ∧ G = [.fz (IsQ C q)]) (js_if (b1 := decide (q.den = 1)) (jt_eq (jt_cmp (pt_cmpR op_eq (je_bot Z.F (jv 0 (R := IsQ C q))) jI (nomark _)) rop_eqI) (by rw [decide_eq_decide]; omega)) (fun h => ?_) (fun h => js_nil ⟨of_decide_eq_false h, rfl⟩)) ?_
  · refine js_one (js_ret (je_eq (pe_joined1 (je_fmtS (jc k_digits_of (hr.mono (by decide)) q.num (ja_cons (je_top Z.F (jv 0)) ja_nil) hp.n) (Nat.le_trans (digS_len hp.n) hz))) ?_))
    show IsS _ = IsS (strS q)
    rw [strS, if_pos (of_decide_eq_true h)]
  · rintro _ ⟨hq, rfl⟩
    rw [strS, if_neg hq, catS_len] at hl
    refine js_one (js_ret (je_eq (je_joined (ss := [digS q.num, "/", digS (q.den : Int)]) (.cons (je_fmtS (jc k_digits_of (hr.mono (by decide)) q.num (ja_cons (je_top Z.F (jv 0)) ja_nil) hp.n) (Nat.le_trans (digS_len hp.n) hz)) (.cons jS (.cons (je_fmtS (jc k_digits_of (hr.mono (by decide)) (q.den : Int) (ja_cons (je_bot Z.F (jv 0)) ja_nil) hp.d) (Nat.le_trans (digS_len hp.d) hz)) .nil))) (by rw [show sizeLine = 2 ^ 24 from rfl]; omega)) ?_))
    show IsS _ = IsS (strS q)
    rw [strS, if_neg hq]
abbrev sp_R__neg__ (C : Addr) : Sp := Pr (ι := Rat) (fun q => [IsQ C q]) (fun q => q.den < 2 ^ 9000) (fun q => IsQ C (-q))
theorem ok_R__neg__ (Z : Glo K mg C) (mk : Mkr P w K mg base C 2) {f : Addr} {fd : FuncData} (Fd : FnM K "__neg__" "Ratio.__neg__" st_R__neg__ f fd) : FnOk P w K mg base CX0 4 f fd ["self"] (sp_R__neg__ C) := by
  refine fn_pr Fd sc_R__neg__ (fun u => by first | rfl | (cases u <;> rfl)) (fun _ => False) (fun _ _ h => h.elim) (fun X u E hX hp hE => ?_)
  obtain ⟨cdv, A, outer, s, H, E', rfl, hr⟩ := hX
  refine PSs.nox ?_
  have nd := (sc_R__neg__).nd
  replace hr : Room 3 (cxOf CX0 P w K mg base N_R__neg__ "Ratio.__neg__" (defScope st_R__neg__) f cdv A outer s H E').nox.A := hr
  rename Rat => q
  have hp : q.den < 2 ^ 9000 := hp
  refine js_one (js_ret (je_eq (jmk2 mk hr (ja_cons (je_op (pe_op op_sub jI (je_top Z.F (jv 0))) rop_sub) (ja_cons (je_bot Z.F (jv 0)) ja_nil)) ⟨q_den0 q, by rw [Int.natAbs_natCast]; exact log2_lt (by decide) hp⟩) ?_))
  show IsQ C _ = IsQ C (-q)
  congr 1
  rw [Int.zero_sub, ← Rat.neg_divInt, Rat.num_divInt_den]
end
end Gw
set_option maxHeartbeats 4000000
namespace Gw
open PySem PySem.Spec PyProof.Rows L2
/-! ### stretches of masses -/
def endsL (ms : List Rat) : List Rat := (List.range (ms.length + 1)).map fun i => sumR (ms.take i)
def lsR (q r : Rat) : Rat := if q < r then q else r
def grR (q r : Rat) : Rat := if q < r then r else q
def takenR (b m : Rat) (p : Rat × Rat) : Rat := grR (lsR p.2 (b + m) - grR p.1 b) 0
def takenL (es : List Rat) (b m : Rat) : List Rat := (es.zip (es.drop 1)).map (takenR b m)
def worthR (t : List Rat) (o : List (Rat × Rat)) : Rat := sumR ((t.zip o).map fun p => p.1 * p.2.2)
theorem sz_ls {n : Nat} {q r : Rat} (h : Sz n q) (k : Sz n r) : Sz n (lsR q r) := by unfold lsR; split <;> assumption
theorem sz_gr {n : Nat} {q r : Rat} (h : Sz n q) (k : Sz n r) : Sz n (grR q r) := by unfold grR; split <;> assumption
theorem atI_last {α : Type} {xs : List α} {x : α} (h : xs[xs.length - 1]? = some x) : atI xs (-1) = some x := by
  have hl : 0 < xs.length := by
    cases xs with
    | nil => simp at h
    | cons y ys => simp
  unfold atI ixN
  rw [if_neg (by decide), if_pos (by omega)]
  show xs[(-1 + (xs.length : Int)).toNat]? = some x
  rw [show (-1 + (xs.length : Int)).toNat = xs.length - 1 by omega]
  exact h
theorem rop_ixLast {α : Type} {K : PySem.W.Frag} {pp : Option Addr} {Rx : α → V → Hp → Prop} {xs : List α} {x : α} (h : xs[xs.length - 1]? = some x) : ROp pp (rIxL K) (IsL Rx xs) (IsI (-1)) (Rx x) := fun y z F H Q ok u1 u2 k => by
  obtain ⟨a, vs, rfl, ha, u⟩ := u1.here
  obtain ⟨v, hv, uv⟩ := u.here.get h
  rw [u2.here]
  have hl : xs.length = vs.length := u.here.len
  exact ⟨a, vs, -1, v, rfl, rfl, .inl (.inl (ok.s _ _ ha)), atI_last (by rw [← hl]; exact hv), k v F H ok.gr uv⟩
theorem jM1 {X : Cx} {E : En} {G : List Sl} {j : Nat} {p1 p2 : Pos} : PE X (.UnaryOp .USub (.Constant (.int 1) j p1) p2) (tE E G (IsI (-1))) := je_un (r := fun x H Q => rU (fun i => .int (-i)) x H Q) (Ra := IsI 1) (pe_un un_neg jI) fun x F H Q ok u k => ⟨1, u.here, k _ F H ok.gr fun _ _ => rfl⟩
theorem ends_step {ms : List Rat} {i : Nat} {m : Rat} (h : ms[i]? = some m) : (List.range (i + 1 + 1)).map (fun j => sumR (ms.take j)) = (List.range (i + 1)).map (fun j => sumR (ms.take j)) ++ [sumR (ms.take i) + m] := by
  rw [List.range_succ (n := i + 1), List.map_append]
  congr 1
  show [sumR (ms.take (i + 1))] = _
  unfold sumR
  rw [foldl_take h]
section
variable {P : Program} {w : World} {K : PySem.W.Frag} {mg : Str → Option Value} {base : Heap} {C : Addr}
abbrev sp_lesser (C : Addr) : Sp := Pr (ι := Rat × Rat) (fun w => [IsQ C w.1, IsQ C w.2]) (fun w => Fits w.1 w.2) (fun w => IsQ C (lsR w.1 w.2))
abbrev Kn_lesser (P : Program) (w : World) (K : PySem.W.Frag) (mg : Str → Option Value) (base : Heap) (C : Addr) : Prop := Kn P w K mg base "lesser" 7 ["one", "other"] (sp_lesser C)
theorem ok_lesser (Z : Glo K mg C) (mbelow : MethK P w K mg base C "is_below" 6 ["self", "other"] (sp_Ris_below C)) {f : Addr} {fd : FuncData} (Fd : FnP K "lesser" st_lesser f fd) : FnOk P w K mg base CX0 7 f fd ["one", "other"] (sp_lesser C) := by
  refine fn_pr Fd sc_lesser (fun u => by first | rfl | (cases u <;> rfl)) (fun _ => False) (fun _ _ h => h.elim) (fun X u E hX hp hE => ?_)
  obtain ⟨cdv, A, outer, s, H, E', rfl, hr⟩ := hX
  refine PSs.nox ?_
  have nd := (sc_lesser).nd
  replace hr : Room 6 (cxOf CX0 P w K mg base N_lesser "lesser" (defScope st_lesser) f cdv A outer s H E').nox.A := hr
  obtain ⟨q, r⟩ := u
  exact js_one (js_ret (je_if (b1 := decide (q < r)) (jt_val (pt_val (jmeth mbelow hr (q, r) (jv 0) (ja_cons (je_conv (jv 1 (R := IsQ C r)) isQ_nm) ja_nil) rfl hp))) (fun h => je_eq (jv 0 (R := IsQ C q)) (by show IsQ C q = IsQ C (lsR q r); rw [lsR, if_pos (of_decide_eq_true h)])) (fun h => je_eq (jv 1 (R := IsQ C r)) (by show IsQ C r = IsQ C (lsR q r); rw [lsR, if_neg (of_decide_eq_false h)]))))
abbrev sp_greater (C : Addr) : Sp := Pr (ι := Rat × Rat) (fun w => [IsQ C w.1, IsQ C w.2]) (fun w => Fits w.1 w.2) (fun w => IsQ C (grR w.1 w.2))
abbrev Kn_greater (P : Program) (w : World) (K : PySem.W.Frag) (mg : Str → Option Value) (base : Heap) (C : Addr) : Prop := Kn P w K mg base "greater" 7 ["one", "other"] (sp_greater C)
theorem ok_greater (Z : Glo K mg C) (mbelow : MethK P w K mg base C "is_below" 6 ["self", "other"] (sp_Ris_below C)) {f : Addr} {fd : FuncData} (Fd : FnP K "greater" st_greater f fd) : FnOk P w K mg base CX0 7 f fd ["one", "other"] (sp_greater C) := by
  refine fn_pr Fd sc_greater (fun u => by first | rfl | (cases u <;> rfl)) (fun _ => False) (fun _ _ h => h.elim) (fun X u E hX hp hE => ?_)
  obtain ⟨cdv, A, outer, s, H, E', rfl, hr⟩ := hX
  refine PSs.nox ?_
  have nd := (sc_greater).nd
  replace hr : Room 6 (cxOf CX0 P w K mg base N_greater "greater" (defScope st_greater) f cdv A outer s H E').nox.A := hr
  obtain ⟨q, r⟩ := u
  exact js_one (js_ret (je_if (b1 := decide (q < r)) (jt_val (pt_val (jmeth mbelow hr (q, r) (jv 0) (ja_cons (je_conv (jv 1 (R := IsQ C r)) isQ_nm) ja_nil) rfl hp))) (fun h => je_eq (jv 1 (R := IsQ C r)) (by show IsQ C r = IsQ C (grR q r); rw [grR, if_pos (of_decide_eq_true h)])) (fun h => je_eq (jv 0 (R := IsQ C q)) (by show IsQ C q = IsQ C (grR q r); rw [grR, if_neg (of_decide_eq_false h)]))))
abbrev sp_worth_of (C : Addr) : Sp := Pr (ι := List Rat × List (Rat × Rat)) (fun w => [IsL (IsQ C) w.1, IsGQ C w.2]) (fun w => w.1.length ≤ 1000 ∧ (∀ p ∈ w.1.zip w.2, Fits p.1 p.2.2) ∧ FitsL 0 ((w.1.zip w.2).map fun p => p.1 * p.2.2)) (fun w => IsQ C (worthR w.1 w.2))
abbrev Kn_worth_of (P : Program) (w : World) (K : PySem.W.Frag) (mg : Str → Option Value) (base : Heap) (C : Addr) : Prop := Kn P w K mg base "worth_of" 8 ["taken", "other"] (sp_worth_of C)
theorem ok_worth_of (Z : Glo K mg C) (omul : Opr P w K mg base C .Mult 6 (fun w => Fits w.1 w.2) (· * ·)) (k_total_of : Kn_total_of P w K mg base C) {f : Addr} {fd : FuncData} (Fd : FnP K "worth_of" st_worth_of f fd) : FnOk P w K mg base CX0 8 f fd ["taken", "other"] (sp_worth_of C) := by
  refine fn_pr Fd sc_worth_of (fun u => by first | rfl | (cases u <;> rfl)) (fun _ => False) (fun _ _ h => h.elim) (fun X u E hX hp hE => ?_)
  obtain ⟨cdv, A, outer, s, H, E', rfl, hr⟩ := hX
  refine PSs.nox ?_
  have nd := (sc_worth_of).nd
  replace hr : Room 7 (cxOf CX0 P w K mg base N_worth_of "worth_of" (defScope st_worth_of) f cdv A outer s H E').nox.A := hr
  obtain ⟨t, o⟩ := u
  obtain ⟨h1, h2, h3⟩ : t.length ≤ 1000 ∧ (∀ p ∈ t.zip o, Fits p.1 p.2.2) ∧ FitsL 0 ((t.zip o).map fun p => p.1 * p.2.2) := hp
  exact js_one (js_ret (jc k_total_of hr ((t.zip o).map fun p => p.1 * p.2.2) (ja_cons (je_m (jlc (Ry := IsQ C) (fun p : Rat × Rat × Rat => p.1 * p.2.2) [("mass", 2), ("part", 3)] nd (ji_zip (Rx := IsQ C) (Ry := IsPq C) (xs := t) (ys := o) (pi_zip rfl Z.zip (ja_cons (jv 0) (ja_cons (jv 1) ja_nil)))) (fun s H C' cl fp x => jg2 2 3 nd) (fun s H C' cl fp x hx => joQ omul (hr.mono (by decide)) (jv 2 (R := IsQ C x.1)) (je_op (pe_ix ix_tup (jv 3 (R := IsPq C x.2)) jI (fun _ _ => rfl)) (rop_ixT (j := 1) rfl)) (h2 x hx)) (line_of (m := 1000) (by rw [List.length_zip]; omega)))) ja_nil) h3))
abbrev sp_ends_of (C : Addr) : Sp := Pr (ι := List Rat) (fun w => [IsL (IsQ C) w]) (fun w => w.length ≤ 900 ∧ FitsL 0 w) (fun w => IsL (IsQ C) (endsL w))
abbrev Kn_ends_of (P : Program) (w : World) (K : PySem.W.Frag) (mg : Str → Option Value) (base : Heap) (C : Addr) : Prop := Kn P w K mg base "ends_of" 7 ["masses"] (sp_ends_of C)
theorem ok_ends_of (Z : Glo K mg C) (mk : Mkr P w K mg base C 2) (oadd : Opr P w K mg base C .Add 6 (fun w => Fits w.1 w.2) (· + ·)) {f : Addr} {fd : FuncData} (Fd : FnP K "ends_of" st_ends_of f fd) : FnOk P w K mg base CX0 7 f fd ["masses"] (sp_ends_of C) := by
  refine fn_pr Fd sc_ends_of (fun u => by first | rfl | (cases u <;> rfl)) (fun _ => False) (fun _ _ h => h.elim) (fun X u E hX hp hE => ?_)
  obtain ⟨cdv, A, outer, s, H, E', rfl, hr⟩ := hX
  refine PSs.nox ?_
  have nd := (sc_ends_of).nd
  replace hr : Room 6 (cxOf CX0 P w K mg base N_ends_of "ends_of" (defScope st_ends_of) f cdv A outer s H E').nox.A := hr
  rename List Rat => ms
  obtain ⟨hl, hp⟩ : ms.length ≤ 900 ∧ FitsL 0 ms := hp
  refine js_seq (js_setM (Rm := LsOf (IsQ C) [(0 : Rat)]) (ps_set (i := 1) nd rfl (.inl rfl) (jm_ls (R := IsQ C) [(0 : Rat)] (jm_lst (pe_lst (ja_cons (jmk1 mk (hr.mono (by decide)) (ja_cons jI ja_nil)) ja_nil)))))) ?_
  refine js_cons (N1 := fun G => ∃ s, G = [.fz (IsL (IsQ C) ms), .mt (LsOf (IsQ C) (endsL ms)), s]) (js_for PassesOwn.never rfl (ji_list (Rx := IsQ C) (xs := ms) (pi_list (jv 0))) (fun x => jg1 2 nd) (fun i G => ∃ s, G = [.fz (IsL (IsQ C) ms), .mt (LsOf (IsQ C) ((List.range (i + 1)).map fun j => sumR (ms.take j))), s]) ⟨_, rfl⟩ ?_ (fun G1 h => h)) ?_
  · rintro i m G1 hi ⟨s, rfl⟩
    have hs := ends_step hi
    have hil := (List.getElem?_eq_some_iff.mp hi).1
    have hlast : ((List.range (i + 1)).map fun j => sumR (ms.take j))[((List.range (i + 1)).map fun j => sumR (ms.take j)).length - 1]? = some (sumR (ms.take i)) := by simp
    refine js_one (js_N (js_append (i := 1) (R := IsQ C (sumR (ms.take i) + m)) (Rm' := LsOf (IsQ C) ((List.range (i + 1 + 1)).map fun j => sumR (ms.take j))) (ps_expr (pe_bm PySem.F.plainAttrs_list PySem.F.slot_list_append PySem.F.type_list_append mt_append (pv 1) (pa_cons (joQ oadd (hr.mono (by decide)) (je_viewQ (i := 1) rfl (je_op (pe_ix ix_list (jv 1) jM1 (fun _ _ => rfl)) (rop_ixLast hlast))) (jv 2) (FitsL.at hp hi)) pa_nil)) rfl) rfl (fun vs v F a b => ?_) (fun vs F a => ?_)) ?_)
    · rw [hs]
      exact (a.here.snoc b).up
    · have := a.len
      rw [List.length_map, List.length_range] at this
      rw [← this]
      exact line_of (m := 1000) (by omega)
    · rintro G' rfl
      exact ⟨_, rfl⟩
  · rintro _ ⟨s, rfl⟩
    exact js_one (js_retV (pv 1) rfl)
abbrev sp_taken_from (C : Addr) : Sp := Pr (ι := List Rat × Rat × Rat) (fun w => [IsL (IsQ C) w.1, IsQ C w.2.1, IsQ C w.2.2]) (fun w => w.1.length ≤ 900 ∧ (∀ x ∈ w.1, Sz 1800 x) ∧ Sz 1800 w.2.1 ∧ Sz 1800 w.2.2) (fun w => IsL (IsQ C) (takenL w.1 w.2.1 w.2.2))
abbrev Kn_taken_from (P : Program) (w : World) (K : PySem.W.Frag) (mg : Str → Option Value) (base : Heap) (C : Addr) : Prop := Kn P w K mg base "taken_from" 8 ["ends", "begin", "mass"] (sp_taken_from C)
theorem ok_taken_from (Z : Glo K mg C) (mk : Mkr P w K mg base C 2) (oadd : Opr P w K mg base C .Add 6 (fun w => Fits w.1 w.2) (· + ·)) (osub : Opr P w K mg base C .Sub 6 (fun w => Fits w.1 w.2) (· - ·)) (k_lesser : Kn_lesser P w K mg base C) (k_greater : Kn_greater P w K mg base C) {f : Addr} {fd : FuncData} (Fd : FnP K "taken_from" st_taken_from f fd) : FnOk P w K mg base CX0 8 f fd ["ends", "begin", "mass"] (sp_taken_from C) := by
  refine fn_pr Fd sc_taken_from (fun u => by first | rfl | (cases u <;> rfl)) (fun _ => False) (fun _ _ h => h.elim) (fun X u E hX hp hE => ?_)
  obtain ⟨cdv, A, outer, s, H, E', rfl, hr⟩ := hX
  refine PSs.nox ?_
  have nd := (sc_taken_from).nd
  replace hr : Room 7 (cxOf CX0 P w K mg base N_taken_from "taken_from" (defScope st_taken_from) f cdv A outer s H E').nox.A := hr
  obtain ⟨es, b, m⟩ := u
  obtain ⟨hl, h1, h2, h3⟩ : es.length ≤ 900 ∧ (∀ x ∈ es, Sz 1800 x) ∧ Sz 1800 b ∧ Sz 1800 m := hp
  refine js_seq (js_setM (Rm := LsOf (IsQ C) ([] : List Rat)) (ps_set (i := 3) nd rfl (.inl rfl) (jm_ls (R := IsQ C) ([] : List Rat) (jm_lst (pe_lst ja_nil))))) ?_
  refine js_cons (N1 := fun G => ∃ s t, G = [.fz (IsL (IsQ C) es), .fz (IsQ C b), .fz (IsQ C m), .mt (LsOf (IsQ C) (takenL es b m)), s, t]) (js_for PassesOwn.never rfl (ji_zip (Rx := IsQ C) (Ry := IsQ C) (xs := es) (ys := es.drop 1) (pi_zip rfl Z.zip (ja_cons (jv 0) (ja_cons (je_m (jm_slice (pe_slice sl_list (jv 0 (R := IsL (IsQ C) es)) (jo_some (jI (i := ((1 : Nat) : Int)))) jo_none) (cut_from _ 1 es rfl).symm)) ja_nil)))) (fun x => jg2 4 5 nd) (fun i G => ∃ s t, G = [.fz (IsL (IsQ C) es), .fz (IsQ C b), .fz (IsQ C m), .mt (LsOf (IsQ C) (((es.zip (es.drop 1)).take i).map (takenR b m))), s, t]) ⟨_, _, rfl⟩ ?_ (fun G1 h => by rwa [List.take_length] at h)) ?_
  · rintro i p G1 hi ⟨s, t, rfl⟩
    have hil := (List.getElem?_eq_some_iff.mp hi).1
    rw [List.length_zip] at hil
    obtain ⟨m1, m2⟩ := List.of_mem_zip (List.mem_of_getElem? hi)
    have z1 := h1 _ m1
    have z2 := h1 _ (List.mem_of_mem_drop m2)
    have z3 := h2.add h3
    have z4 := sz_ls (z2.mono (m := 3601) (by decide)) z3
    have z5 := sz_gr z1 h2
    refine js_one (js_N (js_append (i := 3) (R := IsQ C (takenR b m p)) (Rm' := LsOf (IsQ C) (((es.zip (es.drop 1)).take (i + 1)).map (takenR b m))) (ps_expr (pe_bm PySem.F.plainAttrs_list PySem.F.slot_list_append PySem.F.type_list_append mt_append (pv 3) (pa_cons (jc k_greater (hr.mono (by decide)) (lsR p.2 (b + m) - grR p.1 b, 0) (ja_cons (joQ osub (hr.mono (by decide)) (jc k_lesser (hr.mono (by decide)) (p.2, b + m) (ja_cons (jv 5) (ja_cons (joQ (q := b) (r := m) oadd (hr.mono (by decide)) (jv 1) (jv 2) (h2.fits h3 (by decide))) ja_nil)) (z2.fits z3 (by decide))) (jc k_greater (hr.mono (by decide)) (p.1, b) (ja_cons (jv 4) (ja_cons (jv 1) ja_nil)) (z1.fits h2 (by decide))) (z4.fits z5 (by decide))) (ja_cons (jmk1 mk (hr.mono (by decide)) (ja_cons jI ja_nil)) ja_nil)) ((z4.sub z5).fits sz0 (by decide))) pa_nil)) rfl) rfl (fun vs v F a b => ?_) (fun vs F a => ?_)) ?_)
    · rw [List.take_add_one, hi, List.map_append]
      exact (a.here.snoc b).up
    · have := a.len
      rw [List.length_map, List.length_take, List.length_zip] at this
      rw [← this]
      exact line_of (m := 1000) (by omega)
    · rintro G' rfl
      exact ⟨_, _, rfl⟩
  · rintro _ ⟨s, t, rfl⟩
    exact js_one (js_retV (pv 3) rfl)
end
end Gw
set_option maxHeartbeats 4000000
namespace Gw
open PySem PySem.Spec PyProof.Rows L2
/-! ### where stretches may begin -/
def candL (es : List Rat) (m : Rat) : List Rat := 0 :: (es.map fun e => [e, e - m]).flatten
def keptL (es : List Rat) (m : Rat) : List Rat := (candL es m).filter fun x => decide (0 ≤ x) && decide (x ≤ es[es.length - 1]! - m)
def minL (xs : List Rat) : Rat := xs.foldl lsR xs[0]!
def risL : Nat → List Rat → List Rat
  | 0, _ => []
  | n + 1, xs => if xs = [] then [] else minL xs :: risL n (xs.filter fun x => !decide (x = minL xs))
def beginsL (es : List Rat) (m : Rat) : List Rat := risL (2 * es.length + 1) (keptL es m)
theorem risL_nil (n : Nat) : risL n [] = [] := by cases n <;> rfl
theorem sz_fls {n : Nat} : ∀ {xs : List Rat} {a : Rat}, Sz n a → (∀ x ∈ xs, Sz n x) → Sz n (xs.foldl lsR a)
  | [], _, h, _ => h
  | x :: xs, a, h, k => sz_fls (xs := xs) (a := lsR a x) (sz_ls h (k x (List.mem_cons_self ..))) fun y hy => k y (List.mem_cons_of_mem _ hy)
theorem fls_mem : ∀ {xs : List Rat} {a : Rat}, xs.foldl lsR a = a ∨ xs.foldl lsR a ∈ xs
  | [], _ => .inl rfl
  | x :: xs, a => by
    rw [List.foldl_cons]
    rcases fls_mem (xs := xs) (a := lsR a x) with h | h
    · rw [h]
      unfold lsR
      split
      · exact .inl rfl
      · exact .inr (List.mem_cons_self ..)
    · exact .inr (List.mem_cons_of_mem _ h)
theorem minL_mem {xs : List Rat} (h : xs ≠ []) : minL xs ∈ xs := by
  cases xs with
  | nil => exact absurd rfl h
  | cons x xs =>
    rcases fls_mem (xs := x :: xs) (a := x) with e | e
    · show List.foldl lsR x (x :: xs) ∈ _
      rw [e]
      exact List.mem_cons_self ..
    · exact e
theorem filter_lt {α : Type} {xs : List α} {f : α → Bool} {x : α} (hx : x ∈ xs) (hf : f x = false) : (xs.filter f).length < xs.length := by
  rcases Nat.lt_or_ge (xs.filter f).length xs.length with h | h
  · exact h
  · have e : (xs.filter f).length = xs.length := Nat.le_antisymm (List.length_filter_le _ _) h
    have := List.length_filter_eq_length_iff.mp e x hx
    rw [hf] at this
    cases this
theorem flat2_len {α β : Type} (f : α → β) (g : α → β) : ∀ xs : List α, ((xs.map fun e => [f e, g e]).flatten).length = 2 * xs.length
  | [] => rfl
  | x :: xs => by
    rw [List.map_cons, List.flatten_cons, List.length_append, flat2_len f g xs, List.length_cons, List.length_cons, List.length_cons, List.length_nil]
    omega
theorem candL_len (es : List Rat) (m : Rat) : (candL es m).length = 2 * es.length + 1 := by
  unfold candL
  rw [List.length_cons, flat2_len]
theorem candL_mem {es : List Rat} {m x : Rat} (h : x ∈ candL es m) : x = 0 ∨ ∃ e ∈ es, x = e ∨ x = e - m := by
  rcases List.mem_cons.mp h with h | h
  · exact .inl h
  · obtain ⟨l, hl, hx⟩ := List.mem_flatten.mp h
    obtain ⟨e, he, rfl⟩ := List.mem_map.mp hl
    exact .inr ⟨e, he, by simpa using hx⟩
structure BegP (es : List Rat) (m : Rat) : Prop where
  ne : es ≠ []
  l : es.length ≤ 100
  z : ∀ e ∈ es, Sz 1800 e ∧ Sz 1800 (e - m)
  zm : Sz 1800 m
theorem BegP.cand {es : List Rat} {m : Rat} (h : BegP es m) : ∀ x ∈ candL es m, Sz 1800 x := fun x hx => by
  rcases candL_mem hx with rfl | ⟨e, he, rfl | rfl⟩
  · exact sz0.mono (by decide)
  · exact (h.z x he).1
  · exact (h.z e he).2
section
variable {P : Program} {w : World} {K : PySem.W.Frag} {mg : Str → Option Value} {base : Heap} {C : Addr}
abbrev sp_begins_of (C : Addr) : Sp := Pr (ι := List Rat × Rat) (fun w => [IsL (IsQ C) w.1, IsQ C w.2]) (fun w => BegP w.1 w.2) (fun w => IsL (IsQ C) (beginsL w.1 w.2))
abbrev Kn_begins_of (P : Program) (w : World) (K : PySem.W.Frag) (mg : Str → Option Value) (base : Heap) (C : Addr) : Prop := Kn P w K mg base "begins_of" 8 ["ends", "mass"] (sp_begins_of C)
theorem ok_begins_of (Z : Glo K mg C) (mk : Mkr P w K mg base C 2) (osub : Opr P w K mg base C .Sub 6 (fun w => Fits w.1 w.2) (· - ·)) (psign : PropK P w K mg base C "sign" 1 (sp_Rsign C)) (matmost : MethK P w K mg base C "is_at_most" 6 ["self", "other"] (sp_Ris_at_most C)) (k_lesser : Kn_lesser P w K mg base C) (oeq : EqK P w K mg base C 1) {f : Addr} {fd : FuncData} (Fd : FnP K "begins_of" st_begins_of f fd) : FnOk P w K mg base CX0 8 f fd ["ends", "mass"] (sp_begins_of C) := by
  refine fn_pr Fd sc_begins_of (fun u => by first | rfl | (cases u <;> rfl)) (fun _ => False) (fun _ _ h => h.elim) (fun X u E hX hp hE => ?_)
  obtain ⟨cdv, A, outer, s, H, E', rfl, hr⟩ := hX
  refine PSs.nox ?_
  have nd := (sc_begins_of).nd
  replace hr : Room 7 (cxOf CX0 P w K mg base N_begins_of "begins_of" (defScope st_begins_of) f cdv A outer s H E').nox.A := hr
  obtain ⟨es, m⟩ := u
  have hp : BegP es m := hp
  obtain ⟨hne, hl, hz, hm⟩ := id hp
  have hl0 : 0 < es.length := List.length_pos_iff.mpr hne
  have hlast : es[es.length - 1]? = some es[es.length - 1]! := by rw [getElem!_pos es _ (by omega), List.getElem?_eq_getElem (by omega)]
  have hlm : es[es.length - 1]! ∈ es := List.mem_of_getElem? hlast
  obtain ⟨zl, zlm⟩ := hz _ hlm
  refine js_seq (js_set (i := 2) (R := IsQ C (es[es.length - 1]! - m)) (ps_set (i := 2) nd rfl (.inr rfl) (joQ osub (hr.mono (by decide)) (je_op (pe_ix ix_list (jv 0 (R := IsL (IsQ C) es)) jM1 (fun _ _ => rfl)) (rop_ixLast hlast)) (jv 1) (zl.fits hm (by decide))))) ?_
  refine js_seq (js_setM (i := 3) (Rm := LsOf (IsQ C) [(0 : Rat)]) (ps_set (i := 3) nd rfl (.inl rfl) (jm_ls (R := IsQ C) [(0 : Rat)] (jm_lst (pe_lst (ja_cons (jmk1 mk (hr.mono (by decide)) (ja_cons jI ja_nil)) ja_nil)))))) ?_
  refine js_cons (N1 := fun G => ∃ s, G = [.fz (IsL (IsQ C) es), .fz (IsQ C m), .fz (IsQ C (es[es.length - 1]! - m)), .mt (LsOf (IsQ C) (candL es m)), s, .un, .un, .un, .un]) (js_for PassesOwn.never rfl (ji_list (Rx := IsQ C) (xs := es) (pi_list (jv 0))) (fun x => jg1 4 nd) (fun i G => ∃ s, G = [.fz (IsL (IsQ C) es), .fz (IsQ C m), .fz (IsQ C (es[es.length - 1]! - m)), .mt (LsOf (IsQ C) (0 :: ((es.take i).map fun e => [e, e - m]).flatten)), s, .un, .un, .un, .un]) ⟨_, rfl⟩ ?_ (fun G1 h => by rwa [List.take_length] at h)) ?_
  · rintro i e G1 hi ⟨s, rfl⟩
    have hil := (List.getElem?_eq_some_iff.mp hi).1
    have z1 := (hz e (List.mem_of_getElem? hi)).1
    refine js_one (js_N (js_extend (i := 3) (Rx := IsQ C) (ys := [e, e - m]) (Rm' := LsOf (IsQ C) (0 :: ((es.take (i + 1)).map fun e => [e, e - m]).flatten)) (ps_expr (pe_bm PySem.F.plainAttrs_list PySem.F.slot_list_extend PySem.F.type_list_extend mt_extend (pv 3) (pa_cons (je_m (jm_ls (R := IsQ C) [e, e - m] (jm_lst (pe_lst (ja_cons (jv 4) (ja_cons (joQ osub (hr.mono (by decide)) (jv 4) (jv 1) (z1.fits hm (by decide))) ja_nil)))))) pa_nil)) rfl) rfl (fun vs ws F a b => ?_) (fun vs F a => ?_)) ?_)
    · rw [List.take_add_one, hi, List.map_append, List.flatten_append]
      show Up (LsOf (IsQ C) ((0 :: ((es.take i).map fun e => [e, e - m]).flatten) ++ [e, e - m])) _ _
      exact LsOf.up (paired_app a.here b)
    · have := a.len
      rw [List.length_cons, flat2_len, List.length_take] at this
      rw [← this]
      have : (1000 : Nat) ≤ sizeLine := by decide
      show _ + 2 ≤ _
      omega
    · rintro G' rfl
      exact ⟨_, rfl⟩
  rintro _ ⟨s, rfl⟩
  refine js_frz (i := 3) rfl ?_
  refine js_seq (js_setLc (i := 6) (own := [("number", 5)]) (fun x : Rat => decide (0 ≤ x) && decide (x ≤ es[es.length - 1]! - m)) (fun x : Rat => x) rfl nd rfl rfl (sw_true rfl rfl rfl (by decide +kernel)) (ji_list (Rx := IsQ C) (xs := candL es m) (pi_list (jv 3))) (blkOk_by (by kernel_rfl)) (by decide) (fun s H C' cl fp x => jg1 5 nd) (fun s H C' cl fp x hx => jts_one (PW.pt (jw_and (jt_eq (jt_cmp (pt_cmpR op_ge (jprop psign (hr.mono (by decide)) x (jv 5 (R := IsQ C x)) rfl trivial rfl) jI (nomark _)) rop_ge) (by rw [q_sgn_nn])) fun _ => jw_and1 (jt_val (pt_val (jmeth matmost (hr.mono (by decide)) (x, es[es.length - 1]! - m) (jv 5) (ja_cons (je_conv (jv 2 (R := IsQ C (es[es.length - 1]! - m))) isQ_nm) ja_nil) rfl ((hp.cand x hx).fits zlm (by decide)))))))) (fun s H C' cl fp x hx _ => jv 5) (line_of (m := 1000) (by rw [candL_len]; omega))) ?_
  rw [List.map_id']
  refine js_seq (js_setM (i := 7) (Rm := LsOf (IsQ C) ([] : List Rat)) (ps_set (i := 7) nd rfl (.inl rfl) (jm_ls (R := IsQ C) ([] : List Rat) (jm_lst (pe_lst ja_nil))))) ?_
  have hk1 : (keptL es m).length ≤ 2 * es.length + 1 := by
    rw [← candL_len es m]
    exact List.length_filter_le _ _
  have hk2 : ∀ x ∈ keptL es m, Sz 1800 x := fun x hx => hp.cand x (List.mem_filter.mp hx).1
  refine js_cons (N1 := fun G => ∃ s4 s5 s6 s8, G = [.fz (IsL (IsQ C) es), .fz (IsQ C m), .fz (IsQ C (es[es.length - 1]! - m)), .fz (IsL (IsQ C) (candL es m)), s4, s5, s6, .mt (LsOf (IsQ C) (beginsL es m)), s8])
    (js_while PassesOwn.never (m0 := 2 * es.length + 1) (fun n G => ∃ kept ris s4 s5 s8, kept.length ≤ n ∧ ris.length + n ≤ 2 * es.length + 1 ∧ ris ++ risL n kept = beginsL es m ∧ (∀ x ∈ kept, Sz 1800 x) ∧ G = [.fz (IsL (IsQ C) es), .fz (IsQ C m), .fz (IsQ C (es[es.length - 1]! - m)), .fz (IsL (IsQ C) (candL es m)), s4, s5, .mt (LsOf (IsQ C) kept), .mt (LsOf (IsQ C) ris), s8]) ⟨keptL es m, [], _, _, _, hk1, by simp, rfl, hk2, rfl⟩ ?_) ?_
  · rintro n G1 ⟨kept, ris, s4, s5, s8, hkn, hrn, hrl, hkz, rfl⟩
    refine ⟨!kept.isEmpty, jt_view (i := 6) rfl (jt_cmp (pt_cmpR (op_neNil hr.units0) (jv 6 (R := IsL (IsQ C) kept)) (je_m (jm_ls (R := IsQ C) ([] : List Rat) (jm_lst (pe_lst ja_nil)))) (nomark _)) (rop_neE fun vs F h => by cases h; rfl)), fun hb => ?_, fun hb => ?_⟩
    · have hne : kept ≠ [] := fun e => by subst e; exact absurd hb (by decide)
      have hk0 : 0 < kept.length := List.length_pos_iff.mpr hne
      obtain ⟨n, rfl⟩ : ∃ k, n = k + 1 := ⟨n - 1, by omega⟩
      have h0 : kept[0]? = some kept[0]! := by rw [getElem!_pos kept 0 hk0, List.getElem?_eq_getElem hk0]
      have z0 := hkz _ (List.mem_of_getElem? h0)
      refine js_frz (i := 6) rfl ?_
      refine js_seq (js_set (i := 8) (R := IsQ C kept[0]!) (ps_set (i := 8) nd rfl (.inr rfl) (je_op (pe_ix ix_list (jv 6 (R := IsL (IsQ C) kept)) jI (fun _ _ => rfl)) (rop_ixL (j := 0) h0)))) ?_
      refine js_cons (N1 := fun G => ∃ s5, G = [.fz (IsL (IsQ C) es), .fz (IsQ C m), .fz (IsQ C (es[es.length - 1]! - m)), .fz (IsL (IsQ C) (candL es m)), s4, s5, .fz (IsL (IsQ C) kept), .mt (LsOf (IsQ C) ris), .fz (IsQ C (minL kept))]) (js_for PassesOwn.never rfl (ji_list (Rx := IsQ C) (xs := kept) (pi_list (jv 6))) (fun x => jg1 5 nd) (fun i G => ∃ s5, G = [.fz (IsL (IsQ C) es), .fz (IsQ C m), .fz (IsQ C (es[es.length - 1]! - m)), .fz (IsL (IsQ C) (candL es m)), s4, s5, .fz (IsL (IsQ C) kept), .mt (LsOf (IsQ C) ris), .fz (IsQ C ((kept.take i).foldl lsR kept[0]!))]) ⟨_, rfl⟩ ?_ (fun G1 h => by rwa [List.take_length] at h)) ?_
      · rintro i x G1 hi ⟨s5, rfl⟩
        refine js_one (js_N (js_set (i := 8) (R := IsQ C ((kept.take (i + 1)).foldl lsR kept[0]!)) (ps_set (i := 8) nd rfl (.inr rfl) (je_eq (jc k_lesser (hr.mono (by decide)) ((kept.take i).foldl lsR kept[0]!, x) (ja_cons (jv 8) (ja_cons (jv 5) ja_nil)) ((sz_fls z0 fun y hy => hkz y (List.mem_of_mem_take hy)).fits (hkz x (List.mem_of_getElem? hi)) (by decide))) (by rw [foldl_take hi])))) ?_)
        rintro G' rfl
        exact ⟨_, rfl⟩
      rintro _ ⟨s5, rfl⟩
      have zm := hkz _ (minL_mem hne)
      refine js_seq (js_append (i := 7) (R := IsQ C (minL kept)) (Rm' := LsOf (IsQ C) (ris ++ [minL kept])) (ps_expr (pe_bm PySem.F.plainAttrs_list PySem.F.slot_list_append PySem.F.type_list_append mt_append (pv 7) (pa_cons (jv 8) pa_nil)) rfl) rfl (fun vs v F a b => (a.here.snoc b).up) (fun vs F a => ?_)) ?_
      · rw [← a.len]
        exact line_of (m := 1000) (by omega)
      refine js_one (js_N (js_setLc (i := 6) (own := [("number", 5)]) (fun x : Rat => !decide (x = minL kept)) (fun x : Rat => x) rfl nd rfl rfl (sw_true rfl rfl rfl (by decide +kernel)) (ji_list (Rx := IsQ C) (xs := kept) (pi_list (jv 6))) (blkOk_by (by kernel_rfl)) (by decide) (fun s H C' cl fp x => jg1 5 nd) (fun s H C' cl fp x hx => jts_one (jneQ oeq (hr.mono (by decide)) (jv 5) (jv 8))) (fun s H C' cl fp x hx _ => jv 5) (line_of (m := 1000) (by omega))) ?_)
      rintro G' rfl
      rw [List.map_id']
      refine ⟨n, Nat.lt_succ_self _, kept.filter fun x => !decide (x = minL kept), ris ++ [minL kept], _, _, _, ?_, by rw [List.length_append]; show ris.length + 1 + n ≤ _; omega, ?_, fun x hx => hkz x (List.mem_filter.mp hx).1, rfl⟩
      · have := filter_lt (f := fun x => !decide (x = minL kept)) (minL_mem hne) (by simp)
        omega
      · rw [← hrl, List.append_assoc]
        show ris ++ (minL kept :: risL n _) = ris ++ (if kept = [] then [] else _)
        rw [if_neg hne]
    · have hk : kept = [] := by
        cases kept with
        | nil => rfl
        | cons x xs => exact Bool.noConfusion (show true = false from hb)
      subst hk
      rw [risL_nil, List.append_nil] at hrl
      subst hrl
      exact ⟨_, _, _, _, rfl⟩
  rintro _ ⟨s4, s5, s6, s8, rfl⟩
  exact js_one (js_retV (pv 7) rfl)
end
end Gw
set_option maxHeartbeats 4000000
namespace Gw
open PySem PySem.Spec PyProof.Rows L2
/-! ### the stretch whose worth is a goal -/
def tkW (es : List Rat) (o : List (Rat × Rat)) (m b : Rat) : Rat := worthR (takenL es b m) o
def shR (es : List Rat) (o : List (Rat × Rat)) (m g a b : Rat) : Rat := (g - tkW es o m a) / (tkW es o m b - tkW es o m a)
def strG (es : List Rat) (o : List (Rat × Rat)) (m g : Rat) : Rat → List Rat → List Rat
  | near, [] => takenL es near m
  | near, far :: rest => if g ≤ tkW es o m far then (if tkW es o m near = tkW es o m far then takenL es far m else takenL es (near + shR es o m g near far * (far - near)) m) else strG es o m g far rest
def stretchL (es : List Rat) (o : List (Rat × Rat)) (m g : Rat) : List Rat := strG es o m g (beginsL es m)[0]! (beginsL es m)
structure StrP (es : List Rat) (o : List (Rat × Rat)) (m g : Rat) : Prop where
  bp : BegP es m
  ne : beginsL es m ≠ []
  zb : ∀ b ∈ beginsL es m, Sz 1800 b
  wf : ∀ b ∈ beginsL es m, (∀ p ∈ (takenL es b m).zip o, Fits p.1 p.2.2) ∧ FitsL 0 (((takenL es b m).zip o).map fun p => p.1 * p.2.2)
  zw : ∀ b ∈ beginsL es m, Sz 1800 (tkW es o m b)
  zg : Sz 1800 g
  sh : ∀ a ∈ beginsL es m, ∀ b ∈ beginsL es m, tkW es o m a ≠ tkW es o m b → Sz 5000 (shR es o m g a b) ∧ Sz 5000 (shR es o m g a b * (b - a)) ∧ Sz 1800 (a + shR es o m g a b * (b - a))
theorem takenL_len (es : List Rat) (b m : Rat) : (takenL es b m).length = es.length - 1 := by
  unfold takenL
  rw [List.length_map, List.length_zip, List.length_drop]
  omega
section
variable {P : Program} {w : World} {K : PySem.W.Frag} {mg : Str → Option Value} {base : Heap} {C : Addr}
abbrev sp_stretch_of (C : Addr) : Sp := Pr (ι := List Rat × List (Rat × Rat) × Rat × Rat) (fun w => [IsL (IsQ C) w.1, IsGQ C w.2.1, IsQ C w.2.2.1, IsQ C w.2.2.2]) (fun w => StrP w.1 w.2.1 w.2.2.1 w.2.2.2) (fun w => IsL (IsQ C) (stretchL w.1 w.2.1 w.2.2.1 w.2.2.2))
abbrev Kn_stretch_of (P : Program) (w : World) (K : PySem.W.Frag) (mg : Str → Option Value) (base : Heap) (C : Addr) : Prop := Kn P w K mg base "stretch_of" 9 ["ends", "other", "mass", "goal"] (sp_stretch_of C)
theorem ok_stretch_of (Z : Glo K mg C) (k_begins_of : Kn_begins_of P w K mg base C) (k_taken_from : Kn_taken_from P w K mg base C) (k_worth_of : Kn_worth_of P w K mg base C) (matmost : MethK P w K mg base C "is_at_most" 6 ["self", "other"] (sp_Ris_at_most C)) (oeq : EqK P w K mg base C 1) (mover : MethK P w K mg base C "over" 6 ["self", "other"] (sp_Rover C)) (osub : Opr P w K mg base C .Sub 6 (fun w => Fits w.1 w.2) (· - ·)) (oadd : Opr P w K mg base C .Add 6 (fun w => Fits w.1 w.2) (· + ·)) (omul : Opr P w K mg base C .Mult 6 (fun w => Fits w.1 w.2) (· * ·)) {f : Addr} {fd : FuncData} (Fd : FnP K "stretch_of" st_stretch_of f fd) : FnOk P w K mg base CX0 9 f fd ["ends", "other", "mass", "goal"] (sp_stretch_of C) := by
  refine fn_pr Fd sc_stretch_of (fun u => by first | rfl | (cases u <;> rfl)) (fun _ => False) (fun _ _ h => h.elim) (fun X u E hX hp hE => ?_)
  obtain ⟨cdv, A, outer, s, H, E', rfl, hr⟩ := hX
  refine PSs.nox ?_
  have nd := (sc_stretch_of).nd
  replace hr : Room 8 (cxOf CX0 P w K mg base N_stretch_of "stretch_of" (defScope st_stretch_of) f cdv A outer s H E').nox.A := hr
  obtain ⟨es, o, m, g⟩ := u
  have hp : StrP es o m g := hp
  obtain ⟨bs, hbs⟩ : ∃ bs, bs = beginsL es m := ⟨_, rfl⟩
  have hne := hp.ne
  have hzb := hp.zb
  have hwf := hp.wf
  have hzw := hp.zw
  have hsh := hp.sh
  have hst : stretchL es o m g = strG es o m g bs[0]! bs := by rw [hbs]; rfl
  rw [← hbs] at hne hzb hwf hzw hsh
  have hb0 : 0 < bs.length := List.length_pos_iff.mpr hne
  have h0 : bs[0]? = some bs[0]! := by rw [getElem!_pos bs 0 hb0, List.getElem?_eq_getElem hb0]
  have hel := hp.bp.l
  have tk : ∀ (b : Rat), Sz 1800 b → es.length ≤ 900 ∧ (∀ x ∈ es, Sz 1800 x) ∧ Sz 1800 b ∧ Sz 1800 m := fun b hb => ⟨by omega, fun x hx => (hp.bp.z x hx).1, hb, hp.bp.zm⟩
  have wk : ∀ b ∈ bs, (takenL es b m).length ≤ 1000 ∧ (∀ p ∈ (takenL es b m).zip o, Fits p.1 p.2.2) ∧ FitsL 0 (((takenL es b m).zip o).map fun p => p.1 * p.2.2) := fun b hb => ⟨by rw [takenL_len]; omega, hwf b hb⟩
  refine js_seq (js_set (i := 4) (R := IsL (IsQ C) bs) (ps_set (i := 4) nd rfl (.inl rfl) (jc k_begins_of (hr.mono (by decide)) (es, m) (ja_cons (jv 0) (ja_cons (jv 2) ja_nil)) hp.bp (by rw [hbs])))) ?_
  refine js_seq (js_set (i := 5) (R := IsQ C bs[0]!) (ps_set (i := 5) nd rfl (.inl rfl) (je_op (pe_ix ix_list (jv 4 (R := IsL (IsQ C) bs)) jI (fun _ _ => rfl)) (rop_ixL (j := 0) h0)))) ?_
  show PSs _ _ (tS E _ (Rn (IsL (IsQ C) (stretchL es o m g))) _)
  rw [hst]
  refine js_cons (N1 := fun G => ∃ near s6 s7 s8 s9, near ∈ bs ∧ strG es o m g near [] = strG es o m g bs[0]! bs ∧ G = [.fz (IsL (IsQ C) es), .fz (IsGQ C o), .fz (IsQ C m), .fz (IsQ C g), .fz (IsL (IsQ C) bs), .fz (IsQ C near), s6, s7, s8, s9]) (js_for PassesOwn.never rfl (ji_list (Rx := IsQ C) (xs := bs) (pi_list (jv 4))) (fun x => jg1 6 nd) (fun i G => ∃ near s6 s7 s8 s9, near ∈ bs ∧ strG es o m g near (bs.drop i) = strG es o m g bs[0]! bs ∧ G = [.fz (IsL (IsQ C) es), .fz (IsGQ C o), .fz (IsQ C m), .fz (IsQ C g), .fz (IsL (IsQ C) bs), .fz (IsQ C near), s6, s7, s8, s9]) ⟨bs[0]!, _, _, _, _, List.mem_of_getElem? h0, rfl, rfl⟩ ?_ (fun G1 h => ?_)) ?_
  · rintro i far G1 hi ⟨near, s6, s7, s8, s9, hn, hs, rfl⟩
    have hil := (List.getElem?_eq_some_iff.mp hi).1
    have hf := List.mem_of_getElem? hi
    have hd : bs.drop i = far :: bs.drop (i + 1) := by
      rw [List.drop_eq_getElem_cons hil]
      congr 1
      rw [List.getElem?_eq_getElem hil] at hi
      exact Option.some.inj hi
    rw [hd] at hs
    refine js_seq (js_set (i := 7) (R := IsQ C (tkW es o m near)) (ps_set (i := 7) nd rfl (.inl rfl) (jc k_worth_of (hr.mono (by decide)) (takenL es near m, o) (ja_cons (jc k_taken_from hr (es, near, m) (ja_cons (jv 0) (ja_cons (jv 5) (ja_cons (jv 2) ja_nil))) (tk _ (hzb _ hn))) (ja_cons (jv 1) ja_nil)) (wk _ hn)))) ?_
    refine js_seq (js_set (i := 8) (R := IsQ C (tkW es o m far)) (ps_set (i := 8) nd rfl (.inl rfl) (jc k_worth_of (hr.mono (by decide)) (takenL es far m, o) (ja_cons (jc k_taken_from hr (es, far, m) (ja_cons (jv 0) (ja_cons (jv 6) (ja_cons (jv 2) ja_nil))) (tk _ (hzb _ hf))) (ja_cons (jv 1) ja_nil)) (wk _ hf)))) ?_
    refine js_cons (N1 := fun G => ¬ g ≤ tkW es o m far ∧ G = [.fz (IsL (IsQ C) es), .fz (IsGQ C o), .fz (IsQ C m), .fz (IsQ C g), .fz (IsL (IsQ C) bs), .fz (IsQ C near), .fz (IsQ C far), .fz (IsQ C (tkW es o m near)), .fz (IsQ C (tkW es o m far)), s9]) (js_if (b1 := decide (g ≤ tkW es o m far)) (jt_val (pt_val (jmeth matmost (hr.mono (by decide)) (g, tkW es o m far) (jv 3) (ja_cons (je_conv (jv 8 (R := IsQ C (tkW es o m far))) isQ_nm) ja_nil) rfl (hp.zg.fits (hzw _ hf) (by decide))))) (fun hb => ?_) (fun hb => js_nil ⟨of_decide_eq_false hb, rfl⟩)) ?_
    · have hb := of_decide_eq_true hb
      rw [strG, if_pos hb] at hs
      rw [← hs]
      refine js_cons (N1 := fun G => tkW es o m near ≠ tkW es o m far ∧ G = [.fz (IsL (IsQ C) es), .fz (IsGQ C o), .fz (IsQ C m), .fz (IsQ C g), .fz (IsL (IsQ C) bs), .fz (IsQ C near), .fz (IsQ C far), .fz (IsQ C (tkW es o m near)), .fz (IsQ C (tkW es o m far)), s9]) (js_if (b1 := decide (tkW es o m near = tkW es o m far)) (jteqQ oeq (hr.mono (by decide)) (jv 7) (jv 8)) (fun hc => ?_) (fun hc => js_nil ⟨of_decide_eq_false hc, rfl⟩)) ?_
      · rw [if_pos (of_decide_eq_true hc)]
        exact js_one (js_ret (jc k_taken_from hr (es, far, m) (ja_cons (jv 0) (ja_cons (jv 6) (ja_cons (jv 2) ja_nil))) (tk _ (hzb _ hf))))
      · rintro _ ⟨hc, rfl⟩
        rw [if_neg hc]
        obtain ⟨z1, z2, z3⟩ := hsh _ hn _ hf hc
        refine js_seq (js_set (i := 9) (R := IsQ C (shR es o m g near far)) (ps_set (i := 9) nd rfl (.inl rfl) (jmeth mover (hr.mono (by decide)) (g - tkW es o m near, tkW es o m far - tkW es o m near) (joQ osub (hr.mono (by decide)) (jv 3) (jv 7) (hp.zg.fits (hzw _ hn) (by decide))) (ja_cons (je_conv (joQ (q := tkW es o m far) (r := tkW es o m near) osub (hr.mono (by decide)) (jv 8) (jv 7) ((hzw _ hf).fits (hzw _ hn) (by decide))) isQ_nm) ja_nil) rfl ((hp.zg.sub (hzw _ hn)).fitsO ((hzw _ hf).sub (hzw _ hn)) (fun e => hc ?_) (by decide))))) ?_
        · have e2 : tkW es o m far - tkW es o m near = 0 := e
          grind
        exact js_one (js_ret (jc k_taken_from hr (es, near + shR es o m g near far * (far - near), m) (ja_cons (jv 0) (ja_cons (joQ (q := near) (r := shR es o m g near far * (far - near)) oadd (hr.mono (by decide)) (jv 5) (joQ (q := shR es o m g near far) (r := far - near) omul (hr.mono (by decide)) (jv 9) (joQ (q := far) (r := near) osub (hr.mono (by decide)) (jv 6) (jv 5) ((hzb _ hf).fits (hzb _ hn) (by decide))) (z1.fits ((hzb _ hf).sub (hzb _ hn)) (by decide))) ((hzb _ hn).fits z2 (by decide))) (ja_cons (jv 2) ja_nil))) (tk _ z3)))
    · rintro _ ⟨hb, rfl⟩
      rw [strG, if_neg hb] at hs
      refine js_one (js_N (js_set (i := 5) (R := IsQ C far) (ps_set (i := 5) nd rfl (.inl rfl) (jv 6))) ?_)
      rintro G' rfl
      exact ⟨far, _, _, _, _, hf, hs, rfl⟩
  · obtain ⟨near, s6, s7, s8, s9, hn, hs, rfl⟩ := h
    rw [List.drop_length] at hs
    exact ⟨near, _, _, _, _, hn, hs, rfl⟩
  · rintro _ ⟨near, s6, s7, s8, s9, hn, hs, rfl⟩
    rw [← hs]
    exact js_one (js_ret (jc k_taken_from hr (es, near, m) (ja_cons (jv 0) (ja_cons (jv 5) (ja_cons (jv 2) ja_nil))) (tk _ (hzb _ hn))))
end
end Gw
set_option maxHeartbeats 4000000
namespace Gw
open PySem PySem.Spec PyProof.Rows L2
/-! ### splittings -/
def stpT (o : List (Rat × Rat)) (ms : List Rat) (p : Rat × Rat) : List Rat := stretchL (endsL ms) o p.1 (p.1 * p.2)
def stpR (o : List (Rat × Rat)) (ms : List Rat) (p : Rat × Rat) : List Rat := (stpT o ms p).map fun x => x / p.1
def stpM (o : List (Rat × Rat)) (ms : List Rat) (p : Rat × Rat) : List Rat := (ms.zip (stpT o ms p)).map fun q => q.1 - q.2
def splL (o : List (Rat × Rat)) : List (Rat × Rat) → List Rat → List (List Rat)
  | [], _ => []
  | p :: g, ms => stpR o ms p :: splL o g (stpM o ms p)
structure StpP (o : List (Rat × Rat)) (ms : List Rat) (p : Rat × Rat) : Prop where
  l : ms.length ≤ 100
  f : FitsL 0 ms
  s : StrP (endsL ms) o p.1 (p.1 * p.2)
  m : Fits p.1 p.2
  tl : (stpT o ms p).length ≤ 100
  d : ∀ t ∈ stpT o ms p, FitsO t p.1
  z : ∀ q ∈ ms.zip (stpT o ms p), Fits q.1 q.2
def SplP (o : List (Rat × Rat)) : List (Rat × Rat) → List Rat → Prop
  | [], _ => True
  | p :: g, ms => StpP o ms p ∧ SplP o g (stpM o ms p)
def splO (g o : List (Rat × Rat)) : Option (List (List Rat)) := match hgO g o with
  | none => some (splL o g (o.map fun p => p.1))
  | some _ => none
def IsOM (C : Addr) : Option (List (List Rat)) → V → Hp → Prop
  | none => IsN
  | some M => IsL (IsL (IsQ C)) M
section
variable {P : Program} {w : World} {K : PySem.W.Frag} {mg : Str → Option Value} {base : Heap} {C : Addr}
abbrev sp_splitting_of (C : Addr) : Sp := Pr (ι := List (Rat × Rat) × List (Rat × Rat)) (fun w => [IsGQ C w.1, IsGQ C w.2]) (fun w => SzG w.1 ∧ SzG w.2 ∧ (hgO w.1 w.2 = none → SplP w.2 w.1 (w.2.map fun p => p.1))) (fun w => IsOM C (splO w.1 w.2))
abbrev Kn_splitting_of (P : Program) (w : World) (K : PySem.W.Frag) (mg : Str → Option Value) (base : Heap) (C : Addr) : Prop := Kn P w K mg base "splitting_of" 11 ["guess", "other"] (sp_splitting_of C)
theorem ok_splitting_of (Z : Glo K mg C) (k_hinge_of : Kn_hinge_of P w K mg base C) (k_ends_of : Kn_ends_of P w K mg base C) (k_stretch_of : Kn_stretch_of P w K mg base C) (mover : MethK P w K mg base C "over" 6 ["self", "other"] (sp_Rover C)) (osub : Opr P w K mg base C .Sub 6 (fun w => Fits w.1 w.2) (· - ·)) (omul : Opr P w K mg base C .Mult 6 (fun w => Fits w.1 w.2) (· * ·)) {f : Addr} {fd : FuncData} (Fd : FnP K "splitting_of" st_splitting_of f fd) : FnOk P w K mg base CX0 11 f fd ["guess", "other"] (sp_splitting_of C) := by
  refine fn_pr Fd sc_splitting_of (fun u => by first | rfl | (cases u <;> rfl)) (fun _ => False) (fun _ _ h => h.elim) (fun X u E hX hp hE => ?_)
  obtain ⟨cdv, A, outer, s, H, E', rfl, hr⟩ := hX
  refine PSs.nox ?_
  have nd := (sc_splitting_of).nd
  replace hr : Room 10 (cxOf CX0 P w K mg base N_splitting_of "splitting_of" (defScope st_splitting_of) f cdv A outer s H E').nox.A := hr
  obtain ⟨g, o⟩ := u
  obtain ⟨h1, h2, h3⟩ : SzG g ∧ SzG o ∧ (hgO g o = none → SplP o g (o.map fun p => p.1)) := hp
  have hol := h2.l
  have hgl := h1.l
  refine js_cons (N1 := fun G => hgO g o = none ∧ G = G0 [IsGQ C g, IsGQ C o] 9) (js_if (b1 := (hgO g o).isSome) (jt_cmp (pt_cmpR op_notN (jc k_hinge_of hr (g, o) (ja_cons (jv 0) (ja_cons (jv 1) ja_nil)) ⟨h1, h2⟩) jNon (nomark _)) (rop_notN (fun v F h => by
    revert h
    show IsOQ C (hgO g o) v F → _
    cases hgO g o with
    | none => intro h; rw [show v = V.non from h]; rfl
    | some q => intro h; obtain ⟨a, dx, rfl, _⟩ := h; rfl))) (fun hb => ?_) (fun hb => js_nil ⟨?_, rfl⟩)) ?_
  · obtain ⟨q, hq⟩ := Option.isSome_iff_exists.mp hb
    refine js_one (js_ret (je_eq jNon ?_))
    show IsN = IsOM C (splO g o)
    unfold splO
    rw [hq]
    rfl
  · cases hh : hgO g o with
    | none => rfl
    | some q => rw [hh] at hb; exact Bool.noConfusion (show true = false from hb)
  rintro _ ⟨hN, rfl⟩
  have hS := h3 hN
  have hO : splO g o = some (splL o g (o.map fun p => p.1)) := by
    unfold splO
    rw [hN]
  show PSs _ _ (tS E _ (Rn (IsOM C (splO g o))) _)
  rw [hO]
  show PSs _ _ (tS E _ (Rn (IsL (IsL (IsQ C)) (splL o g (o.map fun p => p.1)))) _)
  refine js_seq (js_parMM (i := 4) (j := 5) (Rm := LsOf (IsQ C) (o.map fun p => p.1)) (Rl := LsOf (IsL (IsQ C)) ([] : List (List Rat))) (by decide) (ps_par (i := 4) (j := 5) rfl nd rfl rfl (by decide) rfl rfl (pa_cons (jlc (Ry := IsQ C) (fun p : Rat × Rat => p.1) [("chance", 2), ("worth", 3)] nd (ji_list (Rx := IsPq C) (xs := o) (pi_list (jv 1))) (fun s H C' cl fp x => jg2 2 3 nd) (fun s H C' cl fp x hx => jv 2) (line_of (m := 1000) (by omega))) (pa_cons (jm_ls (R := IsL (IsQ C)) ([] : List (List Rat)) (jm_lst (pe_lst ja_nil))) pa_nil)) rfl)) ?_
  refine js_cons (N1 := fun G => ∃ s2 s3 s4 s6 s7 s8, G = [.fz (IsGQ C g), .fz (IsGQ C o), s2, s3, s4, .mt (LsOf (IsL (IsQ C)) (splL o g (o.map fun p => p.1))), s6, s7, s8]) (js_for PassesOwn.never rfl (ji_list (Rx := IsPq C) (xs := g) (pi_list (jv 0))) (fun x => jg2 2 3 nd) (fun i G => ∃ ms rs s2 s3 s6 s7 s8, rs.length = i ∧ rs ++ splL o (g.drop i) ms = splL o g (o.map fun p => p.1) ∧ SplP o (g.drop i) ms ∧ G = [.fz (IsGQ C g), .fz (IsGQ C o), s2, s3, .mt (LsOf (IsQ C) ms), .mt (LsOf (IsL (IsQ C)) rs), s6, s7, s8]) ⟨_, [], _, _, _, _, _, rfl, rfl, hS, rfl⟩ ?_ (fun G1 h => ?_)) ?_
  · rintro i p G1 hi ⟨ms, rs, s2, s3, s6, s7, s8, hrl, hrs, hsp, rfl⟩
    have hil := (List.getElem?_eq_some_iff.mp hi).1
    have hd : g.drop i = p :: g.drop (i + 1) := by
      rw [List.drop_eq_getElem_cons hil]
      congr 1
      rw [List.getElem?_eq_getElem hil] at hi
      exact Option.some.inj hi
    rw [hd] at hrs hsp
    obtain ⟨hp1, hp2⟩ : StpP o ms p ∧ SplP o (g.drop (i + 1)) (stpM o ms p) := hsp
    obtain ⟨hl, hf, hst, hm, htl, hdv, hz⟩ := id hp1
    refine js_frz (i := 4) rfl ?_
    refine js_seq (js_set (i := 6) (R := IsL (IsQ C) (stpT o ms p)) (ps_set (i := 6) nd rfl (.inl rfl) (jc k_stretch_of (hr.mono (by decide)) (endsL ms, o, p.1, p.1 * p.2) (ja_cons (jc k_ends_of (hr.mono (by decide)) ms (ja_cons (jv 4) ja_nil) ⟨by omega, hf⟩) (ja_cons (jv 1) (ja_cons (jv 2) (ja_cons (joQ (q := p.1) (r := p.2) omul (hr.mono (by decide)) (jv 2) (jv 3) hm) ja_nil)))) hst))) ?_
    refine js_seq (js_append (i := 5) (R := IsL (IsQ C) (stpR o ms p)) (Rm' := LsOf (IsL (IsQ C)) (rs ++ [stpR o ms p])) (ps_expr (pe_bm PySem.F.plainAttrs_list PySem.F.slot_list_append PySem.F.type_list_append mt_append (pv 5) (pa_cons (je_m (jlc (Ry := IsQ C) (fun x : Rat => x / p.1) [("mass", 8)] nd (ji_list (Rx := IsQ C) (xs := stpT o ms p) (pi_list (jv 6))) (fun s H C' cl fp x => jg1 8 nd) (fun s H C' cl fp x hx => jmeth mover (hr.mono (by decide)) (x, p.1) (jv 8) (ja_cons (je_conv (jv 2 (R := IsQ C p.1)) isQ_nm) ja_nil) rfl (hdv x hx)) (line_of (m := 1000) (by omega)))) pa_nil)) rfl) rfl (fun vs v F a b => (a.here.snoc b).up) (fun vs F a => ?_)) ?_
    · rw [← a.len]
      exact line_of (m := 1000) (by omega)
    refine js_one (js_N (jslc (i := 4) (Ry := IsQ C) (fun q : Rat × Rat => q.1 - q.2) [("mass", 8), ("less", 7)] nd (ji_zip (Rx := IsQ C) (Ry := IsQ C) (xs := ms) (ys := stpT o ms p) (pi_zip rfl Z.zip (ja_cons (jv 4) (ja_cons (jv 6) ja_nil)))) (fun s H C' cl fp x => jg2 8 7 nd) (fun s H C' cl fp x hx => joQ (q := x.1) (r := x.2) osub (hr.mono (by decide)) (jv 8) (jv 7) (hz x hx)) (line_of (m := 1000) (by rw [List.length_zip]; omega))) ?_)
    rintro G' rfl
    refine ⟨stpM o ms p, rs ++ [stpR o ms p], _, _, _, _, _, by rw [List.length_append, hrl]; rfl, ?_, hp2, rfl⟩
    rw [← hrs, List.append_assoc]
    rfl
  · obtain ⟨ms, rs, s2, s3, s6, s7, s8, hrl, hrs, hsp, rfl⟩ := h
    rw [List.drop_length] at hrs
    have e : rs = splL o g (o.map fun p => p.1) := by rw [← hrs]; exact (List.append_nil rs).symm
    subst e
    exact ⟨_, _, _, _, _, _, rfl⟩
  · rintro _ ⟨s2, s3, s4, s6, s7, s8, rfl⟩
    exact js_one (js_retV (pv 5) rfl)
end
end Gw
set_option maxHeartbeats 4000000
namespace Gw
open PySem PySem.Spec PyProof.Rows L2
/-! ### splittings judged -/
structure ChP (row : List Rat) : Prop where
  l : row.length ≤ 100
  p : ∀ x ∈ row, 0 ≤ x
  f : FitsL 0 row
  s : sumR row = 1
structure IsSpl (g o : List (Rat × Rat)) (M : List (List Rat)) : Prop where
  l : M.length = g.length
  gl : g.length ≤ 100
  ol : o.length ≤ 100
  rl : ∀ r ∈ M, r.length = o.length
  ch : ∀ r ∈ M, ChP r
  f1 : ∀ p ∈ g.zip M, (∀ q ∈ o.zip p.2, Fits q.1.2 q.2) ∧ FitsL 0 ((o.zip p.2).map fun q => q.1.2 * q.2)
  e1 : ∀ p ∈ g.zip M, sumR ((o.zip p.2).map fun q => q.1.2 * q.2) = p.1.2
  f2 : ∀ j, j < o.length → (∀ p ∈ g.zip M, Fits p.1.1 p.2[j]!) ∧ FitsL 0 ((g.zip M).map fun p => p.1.1 * p.2[j]!)
  e2 : ∀ j, j < o.length → sumR ((g.zip M).map fun p => p.1.1 * p.2[j]!) = (o[j]!).1
section
variable {P : Program} {w : World} {K : PySem.W.Frag} {mg : Str → Option Value} {base : Heap} {C : Addr}
abbrev sp_are_chances (C : Addr) : Sp := Pr (ι := List Rat × Nat) (fun w => [IsU w.2, IsL (IsQ C) w.1]) (fun w => ChP w.1 ∧ w.1.length = w.2) (fun _ => IsB true)
abbrev Kn_are_chances (P : Program) (w : World) (K : PySem.W.Frag) (mg : Str → Option Value) (base : Heap) (C : Addr) : Prop := Kn P w K mg base "are_chances" 8 ["many", "value"] (sp_are_chances C)
theorem ok_are_chances (Z : Glo K mg C) (k_is_list : Kn_is_list P w K mg base C) (k_is_number : Kn_is_number P w K mg base C) (k_ratio_of : Kn_ratio_of P w K mg base C) (psign : PropK P w K mg base C "sign" 1 (sp_Rsign C)) (k_total_of : Kn_total_of P w K mg base C) (mk : Mkr P w K mg base C 2) (oeq : EqK P w K mg base C 1) {f : Addr} {fd : FuncData} (Fd : FnP K "are_chances" st_are_chances f fd) : FnOk P w K mg base CX0 8 f fd ["many", "value"] (sp_are_chances C) := by
  refine fn_pr Fd sc_are_chances (fun u => by first | rfl | (cases u <;> rfl)) (fun _ => False) (fun _ _ h => h.elim) (fun X u E hX hp hE => ?_)
  obtain ⟨cdv, A, outer, s, H, E', rfl, hr⟩ := hX
  refine PSs.nox ?_
  have nd := (sc_are_chances).nd
  replace hr : Room 7 (cxOf CX0 P w K mg base N_are_chances "are_chances" (defScope st_are_chances) f cdv A outer s H E').nox.A := hr
  obtain ⟨xs, n⟩ := u
  obtain ⟨⟨hl, hp0, hf, hs⟩, hn⟩ : ChP xs ∧ xs.length = n := hp
  refine js_seq (G1 := G0 [IsU n, IsL (IsQ C) xs] 4) (js_if (b1 := false) (PW.pt (jw_or (b1 := false) (b2 := false) (jt_not (b1 := true) (jt_val (pt_val (jc k_is_list (hr.mono (by decide)) () (ja_cons (je_conv (jv 1 (R := IsL (IsQ C) xs)) lst_lt) ja_nil) trivial)))) fun _ => jw_or (b1 := false) (b2 := false) (jt_eq (jt_cmp (pt_cmpR op_ne (jbB call_len Z.len boot_len (ja_cons (jv 1 (R := IsL (IsQ C) xs)) ja_nil) rc_len) (jv 0 (R := IsU n)) (nomark _)) rop_neI) (by rw [hn]; simp)) fun _ => jw_or1 (jt_not (b1 := true) (jt_val (pt_val (je_eq (jbB (cr_all rfl) Z.all boot_all (ja_cons (je_m (jlc (Ry := IsB) (fun _ => true) [("number", 3)] nd (ji_list (Rx := IsQ C) (xs := xs) (pi_list (jv 1))) (fun s H C' cl fp x => jg1 3 nd) (fun s H C' cl fp x hx => jc k_is_number (hr.mono (by decide)) x (ja_cons (je_conv (jv 3 (R := IsQ C x)) isQ_nm) ja_nil) trivial) (line_of (m := 1000) (by omega)))) ja_nil) rc_all) (by rw [all_true]))))))) (fun h => nomatch h) (fun _ => js_nil rfl)) ?_
  refine js_seq (jslc (i := 2) (Ry := IsQ C) (fun x => x) [("number", 3)] nd (ji_list (Rx := IsQ C) (xs := xs) (pi_list (jv 1))) (fun s H C' cl fp x => jg1 3 nd) (fun s H C' cl fp x hx => jc k_ratio_of (hr.mono (by decide)) x (ja_cons (je_conv (jv 3 (R := IsQ C x)) isQ_nm) ja_nil) trivial) (line_of (m := 1000) (by omega))) ?_
  rw [List.map_id']
  refine js_frz (i := 2) rfl ?_
  refine js_one (js_ret (je_eq (je_and (b1 := true) (b2 := true) (je_eq (jbB (cr_all rfl) Z.all boot_all (ja_cons (je_m (jlc (Ry := IsB) (fun x : Rat => decide (0 ≤ x)) [("number", 3)] nd (ji_list (Rx := IsQ C) (xs := xs) (pi_list (jv 2))) (fun s H C' cl fp x => jg1 3 nd) (fun s H C' cl fp x hx => je_eq (je_op (pe_cmpR op_ge (jprop psign (hr.mono (by decide)) x (jv 3 (R := IsQ C x)) rfl trivial rfl) jI (nomark _)) rop_ge) (by rw [q_sgn_nn])) (line_of (m := 1000) (by omega)))) ja_nil) rc_all) ?_) fun _ => pe_one (je_eq (jeqQ oeq (hr.mono (by decide)) (jc k_total_of (hr.mono (by decide)) xs (ja_cons (jv 2) ja_nil) hf) (jmk1 mk (hr.mono (by decide)) (ja_cons jI ja_nil))) ?_)) rfl))
  · show IsB _ = IsB true
    congr 1
    rw [List.all_map, List.all_eq_true]
    intro r h
    exact decide_eq_true (hp0 r h)
  · rw [hs]
    rfl
abbrev sp_splitting (C : Addr) : Sp := Pr (ι := List (Rat × Rat) × List (Rat × Rat)) (fun w => [IsSG C w.1, IsSG C w.2]) (fun w => GuessP w.1 ∧ GuessP w.2 ∧ (hgO w.1 w.2 = none → SplP w.2 w.1 (w.2.map fun p => p.1))) (fun w => IsOM C (splO w.1 w.2))
abbrev Kn_splitting (P : Program) (w : World) (K : PySem.W.Frag) (mg : Str → Option Value) (base : Heap) (C : Addr) : Prop := Kn P w K mg base "splitting" 12 ["guess", "other"] (sp_splitting C)
theorem ok_splitting (Z : Glo K mg C) (k_want_guess : Kn_want_guess P w K mg base C) (k_splitting_of : Kn_splitting_of P w K mg base C) {f : Addr} {fd : FuncData} (Fd : FnP K "splitting" st_splitting f fd) : FnOk P w K mg base CX0 12 f fd ["guess", "other"] (sp_splitting C) := by
  refine fn_pr Fd sc_splitting (fun u => by first | rfl | (cases u <;> rfl)) (fun _ => False) (fun _ _ h => h.elim) (fun X u E hX hp hE => ?_)
  obtain ⟨cdv, A, outer, s, H, E', rfl, hr⟩ := hX
  refine PSs.nox ?_
  have nd := (sc_splitting).nd
  replace hr : Room 11 (cxOf CX0 P w K mg base N_splitting "splitting" (defScope st_splitting) f cdv A outer s H E').nox.A := hr
  obtain ⟨g, o⟩ := u
  obtain ⟨h1, h2, h3⟩ : GuessP g ∧ GuessP o ∧ (hgO g o = none → SplP o g (o.map fun p => p.1)) := hp
  refine js_seq (js_par (i := 2) (j := 3) (Ra := IsGQ C g) (Rb := IsGQ C o) (ps_par (i := 2) (j := 3) rfl nd rfl rfl (by decide) rfl rfl (pa_cons (jc k_want_guess (hr.mono (by decide)) g (ja_cons (jv 0) ja_nil) h1) (pa_cons (jc k_want_guess (hr.mono (by decide)) o (ja_cons (jv 1) ja_nil) h2) pa_nil)) rfl)) ?_
  exact js_one (js_ret (jc k_splitting_of hr (g, o) (ja_cons (jv 2) (ja_cons (jv 3) ja_nil)) ⟨h1.szg, h2.szg, h3⟩))
end
end Gw
set_option maxHeartbeats 1000000
namespace Gw
open PySem PySem.Spec PyProof.Rows L2
/-! ### judges of any value -/
instance : Inhabited Dv := ⟨.non⟩
def intD (d : Dv) : Bool := insD "int" d && !insD "bool" d
theorem isND_eq (d : Dv) : (intD d || isQD d) = isND d := by cases d <;> rfl
def sqV (d : Dv) : List Dv := (sqD d).getD []
def chD (many : Nat) (d : Dv) : Bool := match sqD d with
  | none => false
  | some l => decide (l.length = many) && l.all isND && ((l.map nuV).all (fun x => decide (0 ≤ x)) && decide (sumR (l.map nuV) = 1))
def e1D (o : List (Rat × Rat)) (p : (Rat × Rat) × Dv) : Bool := decide (sumR ((o.zip (sqV p.2)).map fun q => q.1.2 * nuV q.2) = p.1.2)
def e2R (g : List (Rat × Rat)) (rows : List Dv) (j : Nat) : Rat := sumR ((g.zip rows).map fun p => p.1.1 * nuV (sqV p.2)[j]!)
def splD (g o : List (Rat × Rat)) (d : Dv) : Bool := match sqD d with
  | none => false
  | some rows => decide (rows.length = g.length) && rows.all (chD o.length) && (g.zip rows).all (e1D o) && (enumN o).all fun p => decide (e2R g rows p.1 = p.2.1)
/-- numbers that are not great -/
def DvN (d : Dv) : Prop := ∀ l, sqD d = some l → l.length ≤ 100 ∧ ∀ r ∈ l, ∀ m, sqD r = some m → m.length ≤ 100 ∧ ∀ x ∈ m, Sz 2000 (nuV x)
theorem chD_some {n : Nat} {d : Dv} (h : chD n d = true) : ∃ l, sqD d = some l ∧ l.length = n ∧ l.all isND = true ∧ (∀ x ∈ l, 0 ≤ nuV x) ∧ sumR (l.map nuV) = 1 := by
  unfold chD at h
  cases e : sqD d with
  | none => rw [e] at h; cases h
  | some l =>
    rw [e] at h
    simp only [Bool.and_eq_true, decide_eq_true_eq, List.all_map, List.all_eq_true, Function.comp_apply] at h
    refine ⟨l, rfl, h.1.1, ?_, h.2.1, h.2.2⟩
    rw [List.all_eq_true]
    exact h.1.2
theorem all_map_id {α : Type} (l : List α) (f : α → Bool) : (l.map f).all id = l.all f := by
  rw [List.all_map]; rfl
section
variable {P : Program} {w : World} {K : PySem.W.Frag} {mg : Str → Option Value} {base : Heap} {C : Addr}
abbrev sp_is_integer__D (C : Addr) : Sp := Pr (ι := Dv) (fun d => [IsDv C d]) (fun _ => True) (fun d => IsB (intD d))
abbrev Kn_is_integer__D (P : Program) (w : World) (K : PySem.W.Frag) (mg : Str → Option Value) (base : Heap) (C : Addr) : Prop := Kn P w K mg base "is_integer" 1 ["value"] (sp_is_integer__D C)
theorem ok_is_integer__D (Z : Glo K mg C)  {f : Addr} {fd : FuncData} (Fd : FnP K "is_integer" st_is_integer f fd) : FnOk P w K mg base CX0 1 f fd ["value"] (sp_is_integer__D C) := by
  refine fn_pr Fd sc_is_integer (fun u => by first | rfl | (cases u <;> rfl)) (fun _ => False) (fun _ _ h => h.elim) (fun X u E hX hp hE => ?_)
  obtain ⟨cdv, A, outer, s, H, E', rfl, hr⟩ := hX
  refine PSs.nox ?_
  have nd := (sc_is_integer).nd
  replace hr : Room 0 (cxOf CX0 P w K mg base N_is_integer "is_integer" (defScope st_is_integer) f cdv A outer s H E').nox.A := hr
  rename Dv => d
  exact js_one (js_ret (je_and (jbB call_isi Z.isi boot_isinstance (ja_cons (jv 0 (R := IsDv C d)) (ja_cons (jty Z.int boot_int) ja_nil)) (isi_D Z.F Z.D)) fun _ => pe_one (je_not (jbB call_isi Z.isi boot_isinstance (ja_cons (jv 0 (R := IsDv C d)) (ja_cons (jty Z.bool boot_bool) ja_nil)) (isi_D Z.F Z.D)))))
abbrev sp_is_list__D (C : Addr) : Sp := Pr (ι := Dv) (fun d => [IsDv C d]) (fun _ => True) (fun d => IsB (isSqD d))
abbrev Kn_is_list__D (P : Program) (w : World) (K : PySem.W.Frag) (mg : Str → Option Value) (base : Heap) (C : Addr) : Prop := Kn P w K mg base "is_list" 1 ["value"] (sp_is_list__D C)
theorem ok_is_list__D (Z : Glo K mg C)  {f : Addr} {fd : FuncData} (Fd : FnP K "is_list" st_is_list f fd) : FnOk P w K mg base CX0 1 f fd ["value"] (sp_is_list__D C) := by
  refine fn_pr Fd sc_is_list (fun u => by first | rfl | (cases u <;> rfl)) (fun _ => False) (fun _ _ h => h.elim) (fun X u E hX hp hE => ?_)
  obtain ⟨cdv, A, outer, s, H, E', rfl, hr⟩ := hX
  refine PSs.nox ?_
  have nd := (sc_is_list).nd
  replace hr : Room 0 (cxOf CX0 P w K mg base N_is_list "is_list" (defScope st_is_list) f cdv A outer s H E').nox.A := hr
  rename Dv => d
  exact js_one (js_ret (jbB call_isiT Z.isi boot_isinstance (ja_cons (jv 0 (R := IsDv C d)) (ja_cons (je_tup (Rs := [IsC (.ty "list"), IsC (.ty "tuple")]) (pe_tup (ja_cons (jty Z.list boot_list) (ja_cons (jty Z.tuple boot_tuple) ja_nil)))) ja_nil)) (isi_Dlt Z.F Z.D)))
abbrev sp_is_number__D (C : Addr) : Sp := Pr (ι := Dv) (fun d => [IsDv C d]) (fun _ => True) (fun d => IsB (isND d))
abbrev Kn_is_number__D (P : Program) (w : World) (K : PySem.W.Frag) (mg : Str → Option Value) (base : Heap) (C : Addr) : Prop := Kn P w K mg base "is_number" 2 ["value"] (sp_is_number__D C)
theorem ok_is_number__D (Z : Glo K mg C) (k_is_integer__D : Kn_is_integer__D P w K mg base C) {f : Addr} {fd : FuncData} (Fd : FnP K "is_number" st_is_number f fd) : FnOk P w K mg base CX0 2 f fd ["value"] (sp_is_number__D C) := by
  refine fn_pr Fd sc_is_number (fun u => by first | rfl | (cases u <;> rfl)) (fun _ => False) (fun _ _ h => h.elim) (fun X u E hX hp hE => ?_)
  obtain ⟨cdv, A, outer, s, H, E', rfl, hr⟩ := hX
  refine PSs.nox ?_
  have nd := (sc_is_number).nd
  replace hr : Room 1 (cxOf CX0 P w K mg base N_is_number "is_number" (defScope st_is_number) f cdv A outer s H E').nox.A := hr
  rename Dv => d
  exact js_one (js_ret (je_eq (je_or (jc k_is_integer__D hr d (ja_cons (jv 0) ja_nil) trivial) fun _ => pe_one (jbB call_isi Z.isi boot_isinstance (ja_cons (jv 0 (R := IsDv C d)) (ja_cons (jglob (v := .ref C) Z.rat rfl) ja_nil)) (isi_DC Z.F Z.D))) (by rw [isND_eq])))
abbrev sp_are_chances__D (C : Addr) : Sp := Pr (ι := Dv × Nat) (fun w => [IsU w.2, IsDv C w.1]) (fun w => ∀ l, sqD w.1 = some l → l.length ≤ 100 ∧ (l.length = w.2 → FitsL 0 (l.map nuV))) (fun w => IsB (chD w.2 w.1))
abbrev Kn_are_chances__D (P : Program) (w : World) (K : PySem.W.Frag) (mg : Str → Option Value) (base : Heap) (C : Addr) : Prop := Kn P w K mg base "are_chances" 8 ["many", "value"] (sp_are_chances__D C)
theorem ok_are_chances__D (Z : Glo K mg C) (k_is_list : Kn_is_list P w K mg base C) (k_is_list__D : Kn_is_list__D P w K mg base C) (k_is_number__D : Kn_is_number__D P w K mg base C) (k_ratio_of : Kn_ratio_of P w K mg base C) (psign : PropK P w K mg base C "sign" 1 (sp_Rsign C)) (k_total_of : Kn_total_of P w K mg base C) (mk : Mkr P w K mg base C 2) (oeq : EqK P w K mg base C 1) {f : Addr} {fd : FuncData} (Fd : FnP K "are_chances" st_are_chances f fd) : FnOk P w K mg base CX0 8 f fd ["many", "value"] (sp_are_chances__D C) := by
  refine fn_pr Fd sc_are_chances (fun u => by first | rfl | (cases u <;> rfl)) (fun _ => False) (fun _ _ h => h.elim) (fun X u E hX hp hE => ?_)
  obtain ⟨cdv, A, outer, s, H, E', rfl, hr⟩ := hX
  refine PSs.nox ?_
  have nd := (sc_are_chances).nd
  replace hr : Room 7 (cxOf CX0 P w K mg base N_are_chances "are_chances" (defScope st_are_chances) f cdv A outer s H E').nox.A := hr
  obtain ⟨d, n⟩ := u
  have hp : ∀ l, sqD d = some l → l.length ≤ 100 ∧ (l.length = n → FitsL 0 (l.map nuV)) := hp
  show PSs _ _ (tS E _ (Rn (IsB (chD n d))) _)
  cases hs : sqD d with
  | none =>
    have hc : chD n d = false := by unfold chD; rw [hs]
    rw [hc]
    have hq : isSqD d = false := by rw [isSqD_iff, hs]; rfl
    exact js_cons (N1 := fun _ => False) (js_if (b1 := true) (PW.pt (jw_or (b1 := true) (b2 := true) (jt_eq (jt_not (jt_val (pt_val (jc k_is_list__D (hr.mono (by decide)) d (ja_cons (jv 1) ja_nil) trivial)))) (by rw [hq]; rfl)) (fun h => nomatch h))) (fun _ => js_one (js_ret jBl)) (fun h => nomatch h)) (fun _ h => h.elim)
  | some l =>
    obtain ⟨hl, hf⟩ := hp l hs
    refine js_slot (i := 1) rfl (dv_sq hs) ?_
    have hc : chD n d = (decide (l.length = n) && l.all isND && ((l.map nuV).all (fun x => decide (0 ≤ x)) && decide (sumR (l.map nuV) = 1))) := by unfold chD; rw [hs]
    refine js_cons (N1 := fun G => (l.length = n ∧ l.all isND = true) ∧ G = G0 [IsU n, IsSq (IsDv C) l] 4) (js_if (b1 := (!decide (l.length = n) || !l.all isND)) (jt_eq (PW.pt (jw_or (b1 := false) (jt_not (b1 := true) (jt_val (pt_val (jc k_is_list (hr.mono (by decide)) () (ja_cons (je_conv (jv 1 (R := IsSq (IsDv C) l)) sq_lt) ja_nil) trivial)))) fun _ => jw_or (jt_eq (jt_cmp (pt_cmpR op_ne (jbB call_len Z.len boot_len (ja_cons (jv 1 (R := IsSq (IsDv C) l)) ja_nil) rc_lenS) (jv 0 (R := IsU n)) (nomark _)) rop_neI) (b2 := !decide (l.length = n)) (by congr 1; rw [decide_eq_decide]; omega)) fun _ => jw_or1 (jt_not (b1 := l.all isND) (jt_val (pt_val (je_eq (jbB (cr_all rfl) Z.all boot_all (ja_cons (je_m (jlc (Ry := IsB) isND [("number", 3)] nd (ji_seq (i := 1) (Rx := IsDv C) (xs := l) (pi_list (pv 1)) (pi_tup (pv 1)) rfl) (fun s H C' cl fp x => jg1 3 nd) (fun s H C' cl fp x hx => jc k_is_number__D (hr.mono (by decide)) x (ja_cons (jv 3) ja_nil) trivial) (line_of (m := 1000) (by omega)))) ja_nil) rc_all) (by rw [all_map_id]))))))) rfl) (fun hb => ?_) (fun hb => js_nil ⟨?_, rfl⟩)) ?_
    · refine js_one (js_ret (je_eq jBl ?_))
      rw [hc]
      congr 1
      cases h1 : decide (l.length = n) with
      | false => rfl
      | true =>
        rw [h1] at hb
        have : l.all isND = false := by simpa using hb
        rw [this]
        rfl
    · simpa using hb
    · rintro _ ⟨⟨hn, ha⟩, rfl⟩
      have ha' := List.all_eq_true.mp ha
      refine js_seq (jslc (i := 2) (Ry := IsQ C) nuV [("number", 3)] nd (ji_seq (i := 1) (Rx := IsDv C) (xs := l) (pi_list (pv 1)) (pi_tup (pv 1)) rfl) (fun s H C' cl fp x => jg1 3 nd) (fun s H C' cl fp x hx => jc k_ratio_of (hr.mono (by decide)) (nuV x) (ja_cons (je_conv (jv 3 (R := IsDv C x)) (dv_nm (ha' x hx))) ja_nil) trivial) (line_of (m := 1000) (by omega))) ?_
      refine js_frz (i := 2) rfl ?_
      refine js_one (js_ret (je_eq (je_and (b1 := (l.map nuV).all fun x => decide (0 ≤ x)) (je_eq (jbB (cr_all rfl) Z.all boot_all (ja_cons (je_m (jlc (Ry := IsB) (fun x : Rat => decide (0 ≤ x)) [("number", 3)] nd (ji_list (Rx := IsQ C) (xs := l.map nuV) (pi_list (jv 2))) (fun s H C' cl fp x => jg1 3 nd) (fun s H C' cl fp x hx => je_eq (je_op (pe_cmpR op_ge (jprop psign (hr.mono (by decide)) x (jv 3 (R := IsQ C x)) rfl trivial rfl) jI (nomark _)) rop_ge) (by rw [q_sgn_nn])) (line_of (m := 1000) (by rw [List.length_map]; omega)))) ja_nil) rc_all) (by rw [all_map_id])) fun _ => pe_one (jeqQ oeq (hr.mono (by decide)) (jc k_total_of (hr.mono (by decide)) (l.map nuV) (ja_cons (jv 2) ja_nil) (hf hn)) (jmk1 mk (hr.mono (by decide)) (ja_cons jI ja_nil)))) ?_))
      rw [hc, ha, decide_eq_true hn]
      rfl
theorem gq_sq {α : Type} {R : α → V → Hp → Prop} {g : List α} : ∀ v F, IsL R g v F → IsSq R g v F := fun v F h => .inl h
theorem splD_none {g o : List (Rat × Rat)} {d : Dv} (h : sqD d = none) : splD g o d = false := by unfold splD; rw [h]
theorem splD_some {g o : List (Rat × Rat)} {d : Dv} {rows : List Dv} (h : sqD d = some rows) : splD g o d = (decide (rows.length = g.length) && rows.all (chD o.length) && (g.zip rows).all (e1D o) && (enumN o).all fun p => decide (e2R g rows p.1 = p.2.1)) := by unfold splD; rw [h]
theorem all_no {α : Type} {l : List α} {f : α → Bool} {x : α} (h : x ∈ l) (e : f x = false) : l.all f = false := by
  cases q : l.all f with
  | false => rfl
  | true => rw [List.all_eq_true.mp q x h] at e; cases e
theorem all_yes {α : Type} {l : List α} {f : α → Bool} (h : ∀ i x, l[i]? = some x → i < l.length → f x = true) : l.all f = true := by
  rw [List.all_eq_true]
  intro x hx
  obtain ⟨i, hi, rfl⟩ := List.getElem_of_mem hx
  exact h i _ (List.getElem?_eq_getElem hi) hi
theorem sqV_some {d : Dv} {l : List Dv} (h : sqD d = some l) : sqV d = l := by unfold sqV; rw [h]; rfl
abbrev sp_is_splitting_of__D (C : Addr) : Sp := Pr (ι := List (Rat × Rat) × List (Rat × Rat) × Dv) (fun w => [IsGQ C w.1, IsGQ C w.2.1, IsDv C w.2.2]) (fun w => SzG w.1 ∧ SzG w.2.1 ∧ DvN w.2.2) (fun w => IsB (splD w.1 w.2.1 w.2.2))
abbrev Kn_is_splitting_of__D (P : Program) (w : World) (K : PySem.W.Frag) (mg : Str → Option Value) (base : Heap) (C : Addr) : Prop := Kn P w K mg base "is_splitting_of" 9 ["guess", "other", "value"] (sp_is_splitting_of__D C)
theorem ok_is_splitting_of__D (Z : Glo K mg C) (k_is_list : Kn_is_list P w K mg base C) (k_is_list__D : Kn_is_list__D P w K mg base C) (k_are_chances__D : Kn_are_chances__D P w K mg base C) (k_total_of : Kn_total_of P w K mg base C) (omul : Opr P w K mg base C .Mult 6 (fun w => Fits w.1 w.2) (· * ·)) (oeq : EqK P w K mg base C 1) {f : Addr} {fd : FuncData} (Fd : FnP K "is_splitting_of" st_is_splitting_of f fd) : FnOk P w K mg base CX0 9 f fd ["guess", "other", "value"] (sp_is_splitting_of__D C) := by
  refine fn_pr Fd sc_is_splitting_of (fun u => by first | rfl | (cases u <;> rfl)) (fun _ => False) (fun _ _ h => h.elim) (fun X u E hX hp hE => ?_)
  obtain ⟨cdv, A, outer, s, H, E', rfl, hr⟩ := hX
  refine PSs.nox ?_
  have nd := (sc_is_splitting_of).nd
  replace hr : Room 8 (cxOf CX0 P w K mg base N_is_splitting_of "is_splitting_of" (defScope st_is_splitting_of) f cdv A outer s H E').nox.A := hr
  obtain ⟨g, o, d⟩ := u
  obtain ⟨hg, ho, hd⟩ : SzG g ∧ SzG o ∧ DvN d := hp
  have hgl := hg.l
  have hol := ho.l
  show PSs _ _ (tS E _ (Rn (IsB (splD g o d))) _)
  cases hs : sqD d with
  | none =>
    rw [splD_none hs]
    have hq : isSqD d = false := by rw [isSqD_iff, hs]; rfl
    exact js_cons (N1 := fun _ => False) (js_if (b1 := true) (PW.pt (jw_or (b1 := true) (b2 := true) (jt_eq (jt_not (jt_val (pt_val (jc k_is_list__D (hr.mono (by decide)) d (ja_cons (jv 2) ja_nil) trivial)))) (by rw [hq]; rfl)) (fun h => nomatch h))) (fun _ => js_one (js_ret jBl)) (fun h => nomatch h)) (fun _ h => h.elim)
  | some rows =>
    obtain ⟨hrl, hrr⟩ := hd rows hs
    have hS := splD_some (g := g) (o := o) hs
    refine js_slot (i := 2) rfl (dv_sq hs) ?_
    refine js_cons (N1 := fun G => rows.length = g.length ∧ G = G0 [IsGQ C g, IsGQ C o, IsSq (IsDv C) rows] 8) (js_if (b1 := !decide (rows.length = g.length)) (jt_eq (PW.pt (jw_or (b1 := false) (jt_not (b1 := true) (jt_val (pt_val (jc k_is_list (hr.mono (by decide)) () (ja_cons (je_conv (jv 2 (R := IsSq (IsDv C) rows)) sq_lt) ja_nil) trivial)))) fun _ => jw_or1 (jt_eq (jt_cmp (pt_cmpR op_ne (jbB call_len Z.len boot_len (ja_cons (jv 2 (R := IsSq (IsDv C) rows)) ja_nil) rc_lenS) (jbB call_len Z.len boot_len (ja_cons (jv 0 (R := IsGQ C g)) ja_nil) rc_len) (nomark _)) rop_neI) (b2 := !decide (rows.length = g.length)) (by congr 1; rw [decide_eq_decide]; omega)))) rfl) (fun hb => ?_) (fun hb => js_nil ⟨?_, rfl⟩)) ?_
    · refine js_one (js_ret (je_eq jBl ?_))
      have : decide (rows.length = g.length) = false := by simpa using hb
      rw [hS, this]
      rfl
    · simpa using hb
    rintro _ ⟨hl, rfl⟩
    have hpre : ∀ x ∈ rows, ∀ l, sqD x = some l → l.length ≤ 100 ∧ (l.length = o.length → FitsL 0 (l.map nuV)) := fun x hx l hxl => ⟨(hrr x hx l hxl).1, fun e => FitsL.zero (n := 2000) (fun y hy => by obtain ⟨z, hz, rfl⟩ := List.mem_map.mp hy; exact (hrr x hx l hxl).2 z hz) (by rw [List.length_map]; omega)⟩
    refine js_cons (N1 := fun G => rows.all (chD o.length) = true ∧ G = G0 [IsGQ C g, IsGQ C o, IsSq (IsDv C) rows] 8) (js_if (b1 := !rows.all (chD o.length)) (jt_not (b1 := rows.all (chD o.length)) (jt_val (pt_val (je_eq (jbB (cr_all rfl) Z.all boot_all (ja_cons (je_m (jlc (Ry := IsB) (chD o.length) [("row", 3)] nd (ji_seq (i := 2) (Rx := IsDv C) (xs := rows) (pi_list (pv 2)) (pi_tup (pv 2)) rfl) (fun s H C' cl fp x => jg1 3 nd) (fun s H C' cl fp x hx => jc k_are_chances__D (hr.mono (by decide)) (x, o.length) (ja_cons (jbB call_len Z.len boot_len (ja_cons (jv 1 (R := IsGQ C o)) ja_nil) rc_len) (ja_cons (jv 3) ja_nil)) (hpre x hx)) (line_of (m := 1000) (by omega)))) ja_nil) rc_all) (by rw [all_map_id]))))) (fun hb => ?_) (fun hb => js_nil ⟨?_, rfl⟩)) ?_
    · refine js_one (js_ret (je_eq jBl ?_))
      have : rows.all (chD o.length) = false := by simpa using hb
      rw [hS, this, Bool.and_false]
      rfl
    · simpa using hb
    rintro _ ⟨hall, rfl⟩
    have hch : ∀ x ∈ rows, ∃ l, sqD x = some l ∧ sqV x = l ∧ l.length = o.length ∧ (∀ z ∈ l, isND z = true) ∧ ∀ z ∈ l, Sz 2000 (nuV z) := fun x hx => by
      obtain ⟨l, e1, e2, e3, _⟩ := chD_some (List.all_eq_true.mp hall x hx)
      exact ⟨l, e1, sqV_some e1, e2, List.all_eq_true.mp e3, (hrr x hx l e1).2⟩
    have hS2 : splD g o d = ((g.zip rows).all (e1D o) && (enumN o).all fun p => decide (e2R g rows p.1 = p.2.1)) := by
      rw [hS, hall, decide_eq_true hl]
      rfl
    rw [hS2]
    clear hS hS2
    refine js_cons (N1 := fun G => (g.zip rows).all (e1D o) = true ∧ ∃ s3 s4, G = [.fz (IsGQ C g), .fz (IsGQ C o), .fz (IsSq (IsDv C) rows), s3, s4, .un, .un, .un]) (js_for PassesOwn.never rfl (ji_zipG (Rx := IsPq C) (Ry := IsDv C) (xs := g) (ys := rows) (pi_zipG rfl Z.zip (ja_cons (je_conv (jv 0 (R := IsGQ C g)) gq_sq) (ja_cons (jv 2) ja_nil)))) (fun x => jg2 4 3 nd) (fun i G => (∀ j q, (g.zip rows)[j]? = some q → j < i → e1D o q = true) ∧ ∃ s3 s4, G = [.fz (IsGQ C g), .fz (IsGQ C o), .fz (IsSq (IsDv C) rows), s3, s4, .un, .un, .un]) ⟨fun j q _ h => absurd h (Nat.not_lt_zero _), _, _, rfl⟩ ?_ (fun G1 h => ⟨all_yes h.1, h.2⟩)) ?_
    · rintro i p G1 hi ⟨hb4, s3, s4, rfl⟩
      have hm := List.mem_of_getElem? hi
      have hm2 := (List.of_mem_zip hm).2
      obtain ⟨l, el, ev, ell, eln, elz⟩ := hch p.2 hm2
      have a1 : ∀ q ∈ o.zip l, Fits q.1.2 (nuV q.2) := fun q hq => (ho.z q.1 (List.of_mem_zip hq).1).2.fits (elz q.2 (List.of_mem_zip hq).2) (by omega)
      have a2 : FitsL 0 ((o.zip l).map fun q => q.1.2 * nuV q.2) := FitsL.zero (n := 2100) (fun y hy => by
        obtain ⟨q, hq, rfl⟩ := List.mem_map.mp hy
        exact ((ho.z q.1 (List.of_mem_zip hq).1).2.mul (elz q.2 (List.of_mem_zip hq).2)).mono (by omega)) (by rw [List.length_map, List.length_zip]; omega)
      have he : e1D o p = decide (sumR ((o.zip l).map fun q => q.1.2 * nuV q.2) = p.1.2) := by unfold e1D; rw [ev]
      refine js_slot (i := 3) rfl (dv_sq el) ?_
      refine js_one (js_if (b1 := !e1D o p) (jt_eq (jneQ oeq (hr.mono (by decide)) (jc k_total_of (hr.mono (by decide)) ((o.zip l).map fun q => q.1.2 * nuV q.2) (ja_cons (je_m (jlc (Ry := IsQ C) (fun q : (Rat × Rat) × Dv => q.1.2 * nuV q.2) [("far", 5), ("number", 7)] nd (ji_zipG (Rx := IsPq C) (Ry := IsDv C) (xs := o) (ys := l) (pi_zipG rfl Z.zip (ja_cons (je_conv (jv 1 (R := IsGQ C o)) gq_sq) (ja_cons (jv 3 (R := IsSq (IsDv C) l)) ja_nil)))) (fun s H C' cl fp x => jg2 5 7 nd) (fun s H C' cl fp x hx => joQN (q := x.1.2) (r := nuV x.2) omul (hr.mono (by decide)) (je_op (pe_ix ix_tup (jv 5 (R := IsPq C x.1)) jI (fun _ _ => rfl)) (rop_ixT (j := 1) rfl)) (je_conv (jv 7 (R := IsDv C x.2)) (dv_nm (eln x.2 (List.of_mem_zip hx).2))) (a1 x hx)) (line_of (m := 1000) (by rw [List.length_zip]; omega)))) ja_nil) a2) (je_op (pe_ix ix_tup (jv 4 (R := IsPq C p.1)) jI (fun _ _ => rfl)) (rop_ixT (j := 1) rfl))) (by rw [he])) (fun hb => ?_) (fun hb => js_nil ⟨?_, _, _, rfl⟩))
      · refine js_one (js_ret (je_eq jBl ?_))
        rw [all_no hm (by simpa using hb)]
        rfl
      · intro j q hq hj
        by_cases ej : j = i
        · subst ej
          rw [hi] at hq
          cases hq
          simpa using hb
        · exact hb4 j q hq (by omega)
    rintro _ ⟨h1, s3, s4, rfl⟩
    rw [h1, Bool.true_and]
    refine js_cons (N1 := fun G => ((enumN o).all fun p => decide (e2R g rows p.1 = p.2.1)) = true ∧ ∃ s5 s6, G = [.fz (IsGQ C g), .fz (IsGQ C o), .fz (IsSq (IsDv C) rows), s3, s4, s5, s6, .un]) (js_for PassesOwn.never rfl (ji_enumN (Rx := IsPq C) (xs := o) (pi_enum rfl Z.enum (ja_cons (jv 1) ja_nil))) (fun x => jg2 6 5 nd) (fun i G => (∀ j q, (enumN o)[j]? = some q → j < i → decide (e2R g rows q.1 = q.2.1) = true) ∧ ∃ s5 s6, G = [.fz (IsGQ C g), .fz (IsGQ C o), .fz (IsSq (IsDv C) rows), s3, s4, s5, s6, .un]) ⟨fun j q _ h => absurd h (Nat.not_lt_zero _), _, _, rfl⟩ ?_ (fun G1 h => ⟨all_yes h.1, h.2⟩)) ?_
    · rintro i p G1 hi ⟨hb4, s5, s6, rfl⟩
      have hm := List.mem_of_getElem? hi
      obtain ⟨hj, hpo⟩ := mem_enumN hm
      have hz : ∀ q ∈ g.zip rows, ∃ l, sqD q.2 = some l ∧ isND l[p.1]! = true ∧ (sqV q.2)[p.1]! = l[p.1]! ∧ l[p.1]? = some l[p.1]! ∧ Sz 2000 (nuV l[p.1]!) := fun q hq => by
        obtain ⟨l, el, ev, ell, eln, elz⟩ := hch q.2 (List.of_mem_zip hq).2
        have hjl : p.1 < l.length := by omega
        have hm : l[p.1]! ∈ l := by rw [getElem!_pos l _ hjl]; exact List.getElem_mem hjl
        exact ⟨l, el, eln _ hm, by rw [ev], by rw [getElem!_pos l _ hjl, List.getElem?_eq_getElem hjl], elz _ hm⟩
      have a1 : ∀ q ∈ g.zip rows, Fits q.1.1 (nuV (sqV q.2)[p.1]!) := fun q hq => by
        obtain ⟨l, _, _, e, _, z⟩ := hz q hq
        rw [e]
        exact (hg.z q.1 (List.of_mem_zip hq).1).1.fits z (by omega)
      have a2 : FitsL 0 ((g.zip rows).map fun q => q.1.1 * nuV (sqV q.2)[p.1]!) := FitsL.zero (n := 2100) (fun y hy => by
        obtain ⟨q, hq, rfl⟩ := List.mem_map.mp hy
        obtain ⟨l, _, _, e, _, z⟩ := hz q hq
        rw [e]
        exact ((hg.z q.1 (List.of_mem_zip hq).1).1.mul z).mono (by omega)) (by rw [List.length_map, List.length_zip]; omega)
      refine js_one (js_if (b1 := !decide (e2R g rows p.1 = p.2.1)) (jneQ oeq (hr.mono (by decide)) (jc k_total_of (hr.mono (by decide)) ((g.zip rows).map fun q => q.1.1 * nuV (sqV q.2)[p.1]!) (ja_cons (je_m (jlc (Ry := IsQ C) (fun q : (Rat × Rat) × Dv => q.1.1 * nuV (sqV q.2)[p.1]!) [("part", 4), ("row", 3)] nd (ji_zipG (Rx := IsPq C) (Ry := IsDv C) (xs := g) (ys := rows) (pi_zipG rfl Z.zip (ja_cons (je_conv (jv 0 (R := IsGQ C g)) gq_sq) (ja_cons (jv 2) ja_nil)))) (fun s H C' cl fp x => jg2 4 3 nd) (fun s H C' cl fp x hx => by
        obtain ⟨l, el, hn, e, hget, z⟩ := hz x hx
        exact joQN (q := x.1.1) (r := nuV (sqV x.2)[p.1]!) omul (hr.mono (by decide)) (je_op (pe_ix ix_tup (jv 4 (R := IsPq C x.1)) jI (fun _ _ => rfl)) (rop_ixT (j := 0) rfl)) (je_conv (je_op (pe_ix ix_seq (je_conv (jv 3 (R := IsDv C x.2)) (dv_sq el)) (jv 6 (R := IsU p.1)) (fun _ _ => rfl)) (rop_ixSq hget)) (by rw [e]; exact dv_nm hn)) (a1 x hx)) (line_of (m := 1000) (by rw [List.length_zip]; omega)))) ja_nil) a2) (je_op (pe_ix ix_tup (jv 5 (R := IsPq C p.2)) jI (fun _ _ => rfl)) (rop_ixT (j := 0) rfl))) (fun hb => ?_) (fun hb => js_nil ⟨?_, _, _, rfl⟩))
      · refine js_one (js_ret (je_eq jBl ?_))
        rw [all_no (f := fun p : Nat × Rat × Rat => decide (e2R g rows p.1 = p.2.1)) hm (by simpa using hb)]
      · intro j q hq hj
        by_cases ej : j = i
        · subst ej
          rw [hi] at hq
          cases hq
          simpa using hb
        · exact hb4 j q hq (by omega)
    rintro _ ⟨h2, s5, s6, rfl⟩
    exact js_one (js_ret (je_eq jBl (by rw [h2])))
abbrev sp_is_splitting__D (C : Addr) : Sp := Pr (ι := List (Rat × Rat) × List (Rat × Rat) × Dv) (fun w => [IsSG C w.1, IsSG C w.2.1, IsDv C w.2.2]) (fun w => GuessP w.1 ∧ GuessP w.2.1 ∧ DvN w.2.2) (fun w => IsB (splD w.1 w.2.1 w.2.2))
abbrev Kn_is_splitting__D (P : Program) (w : World) (K : PySem.W.Frag) (mg : Str → Option Value) (base : Heap) (C : Addr) : Prop := Kn P w K mg base "is_splitting" 10 ["guess", "other", "value"] (sp_is_splitting__D C)
theorem ok_is_splitting__D (Z : Glo K mg C) (k_want_guess : Kn_want_guess P w K mg base C) (k_is_splitting_of__D : Kn_is_splitting_of__D P w K mg base C) {f : Addr} {fd : FuncData} (Fd : FnP K "is_splitting" st_is_splitting f fd) : FnOk P w K mg base CX0 10 f fd ["guess", "other", "value"] (sp_is_splitting__D C) := by
  refine fn_pr Fd sc_is_splitting (fun u => by first | rfl | (cases u <;> rfl)) (fun _ => False) (fun _ _ h => h.elim) (fun X u E hX hp hE => ?_)
  obtain ⟨cdv, A, outer, s, H, E', rfl, hr⟩ := hX
  refine PSs.nox ?_
  have nd := (sc_is_splitting).nd
  replace hr : Room 9 (cxOf CX0 P w K mg base N_is_splitting "is_splitting" (defScope st_is_splitting) f cdv A outer s H E').nox.A := hr
  obtain ⟨g, o, d⟩ := u
  obtain ⟨h1, h2, h3⟩ : GuessP g ∧ GuessP o ∧ DvN d := hp
  refine js_seq (js_par (i := 3) (j := 4) (Ra := IsGQ C g) (Rb := IsGQ C o) (ps_par (i := 3) (j := 4) rfl nd rfl rfl (by decide) rfl rfl (pa_cons (jc k_want_guess (hr.mono (by decide)) g (ja_cons (jv 0) ja_nil) h1) (pa_cons (jc k_want_guess (hr.mono (by decide)) o (ja_cons (jv 1) ja_nil) h2) pa_nil)) rfl)) ?_
  exact js_one (js_ret (jc k_is_splitting_of__D (hr.mono (by decide)) (g, o, d) (ja_cons (jv 3) (ja_cons (jv 4) (ja_cons (jv 2) ja_nil))) ⟨h1.szg, h2.szg, h3⟩))
def hgD (g o : List (Rat × Rat)) (d : Dv) : Bool := isND d && decide (aboveR o (nuV d) < aboveR g (nuV d))
abbrev sp_is_hinge__D (C : Addr) : Sp := Pr (ι := List (Rat × Rat) × List (Rat × Rat) × Dv) (fun w => [IsSG C w.1, IsSG C w.2.1, IsDv C w.2.2]) (fun w => GuessP w.1 ∧ GuessP w.2.1 ∧ Sz 100 (nuV w.2.2)) (fun w => IsB (hgD w.1 w.2.1 w.2.2))
abbrev Kn_is_hinge__D (P : Program) (w : World) (K : PySem.W.Frag) (mg : Str → Option Value) (base : Heap) (C : Addr) : Prop := Kn P w K mg base "is_hinge" 12 ["guess", "other", "value"] (sp_is_hinge__D C)
theorem ok_is_hinge__D (Z : Glo K mg C) (k_want_guess : Kn_want_guess P w K mg base C) (k_is_number__D : Kn_is_number__D P w K mg base C) (k_is_hinge_of : Kn_is_hinge_of P w K mg base C) (k_ratio_of : Kn_ratio_of P w K mg base C) {f : Addr} {fd : FuncData} (Fd : FnP K "is_hinge" st_is_hinge f fd) : FnOk P w K mg base CX0 12 f fd ["guess", "other", "value"] (sp_is_hinge__D C) := by
  refine fn_pr Fd sc_is_hinge (fun u => by first | rfl | (cases u <;> rfl)) (fun _ => False) (fun _ _ h => h.elim) (fun X u E hX hp hE => ?_)
  obtain ⟨cdv, A, outer, s, H, E', rfl, hr⟩ := hX
  refine PSs.nox ?_
  have nd := (sc_is_hinge).nd
  replace hr : Room 11 (cxOf CX0 P w K mg base N_is_hinge "is_hinge" (defScope st_is_hinge) f cdv A outer s H E').nox.A := hr
  obtain ⟨g, o, d⟩ := u
  obtain ⟨h1, h2, h3⟩ : GuessP g ∧ GuessP o ∧ Sz 100 (nuV d) := hp
  refine js_seq (js_par (i := 3) (j := 4) (Ra := IsGQ C g) (Rb := IsGQ C o) (ps_par (i := 3) (j := 4) rfl nd rfl rfl (by decide) rfl rfl (pa_cons (jc k_want_guess (hr.mono (by decide)) g (ja_cons (jv 0) ja_nil) h1) (pa_cons (jc k_want_guess (hr.mono (by decide)) o (ja_cons (jv 1) ja_nil) h2) pa_nil)) rfl)) ?_
  exact js_one (js_ret (je_and (b1 := isND d) (jc k_is_number__D (hr.mono (by decide)) d (ja_cons (jv 2) ja_nil) trivial) fun hn => pe_one (jc k_is_hinge_of (hr.mono (by decide)) (g, o, nuV d) (ja_cons (jv 3) (ja_cons (jv 4) (ja_cons (jc k_ratio_of (hr.mono (by decide)) (nuV d) (ja_cons (je_conv (jv 2 (R := IsDv C d)) (dv_nm hn)) ja_nil) trivial) ja_nil))) ⟨h1.szg, h2.szg, h3⟩)))
end
end Gw
set_option maxHeartbeats 4000000
namespace Gw
open PySem PySem.Spec PyProof.Rows L2
section
variable {P : Program} {w : World} {K : PySem.W.Frag} {mg : Str → Option Value} {base : Heap} {C : Addr}
/-! ### the law's pot, at the bare layer -/
def spDraw : Sp := fun vs H Q _ => ∃ (q : Addr) (x y z : Int), vs = [.ref q, .int z] ∧ H q = some (.lst [.int x, .int y]) ∧ 0 ≤ x ∧ 0 ≤ y ∧ y < 2 ^ 40 ∧ 0 < z ∧ z < 2 ^ 30 ∧
  ∀ (d x' y' : Int) (H' : Hp), 0 ≤ d → d < z → 0 ≤ x' → 0 ≤ y' → y' < 2 ^ 40 → H' q = some (.lst [.int x', .int y']) → (∀ a o, a ≠ q → H a = some o → H' a = some o) → Q (.int d) H'
theorem ok_draw0 (Z : Glo K mg C) {f : Addr} {fd : FuncData} (Fd : FnP K "_law_draw" st__law_draw f fd) : FnOk P w K mg base CX0 1 f fd ["pot", "size"] spDraw := by
  refine Fd.ok sc__law_draw (fun vs H Q E h => ?_) (fun cdv A outer s H vs Q E hr h => ?_)
  · obtain ⟨q, x, y, z, rfl, _⟩ := h
    rfl
  · have nd := sc__law_draw.nd
    refine ⟨_, PSs.nox (pss_cons (ps_if (pt_cmpR op_gt (pe_ix ix_list (pv 0) pe_int (fun _ _ => rfl)) pe_int (nomark _)) (pss_cons (ps_asg (pe_callB call_divmod rfl Z.divmod boot_divmod (pa_cons (pe_ix ix_list (pv 0) pe_int (fun _ _ => rfl)) (pa_cons (pv 1) pa_nil))) (pg_tup rfl (pgs_cons (pg_sub (pv 0) pe_int set_list) (pgs_cons (gN 2 nd) pgs_nil)))) (pss_one (ps_ret (pv 2)))) pss_nil)
      (pss_cons (ps_asg (pe_op op_mod (pe_callTy call_int1 rfl Z.int boot_int (pa_cons (pe_op op_add (pe_op op_mulW (pe_ix ix_list (pv 0) pe_int (fun _ _ => rfl)) pe_int) pe_int) pa_nil)) pe_int) (pg_sub (pv 0) pe_int set_list))
        (pss_one (ps_ret (pe_op op_mod (pe_callTy call_int1 rfl Z.int boot_int (pa_cons (pe_op op_fdiv (pe_op op_mod (pe_callTy call_int1 rfl Z.int boot_int (pa_cons (pe_op op_mulW (pe_ix ix_list (pv 0) pe_int (fun _ _ => rfl)) (pe_ix ix_list (pv 0) pe_int (fun _ _ => rfl))) pa_nil)) pe_int) pe_int) pa_nil)) (pv 1)))))), ?_⟩
    obtain ⟨q, x, y, z, rfl, hq, hx, hy, hy2, hz, hz2, kq⟩ := h
    have h0 : atI [V.int x, V.int y] 0 = some (.int x) := rfl
    have h1 : atI [V.int x, V.int y] 1 = some (.int y) := rfl
    refine ⟨_, rfl, q, [.int x, .int y], 0, .int x, rfl, rfl, .inl (.inl hq), h0, x, 0, rfl, rfl, decide (0 < x), rfl, ?_⟩
    by_cases hx0 : 0 < x
    · rw [decide_eq_true hx0]
      show (if true = true then _ else _)
      rw [if_pos rfl]
      refine ⟨_, rfl, q, [.int x, .int y], 0, .int x, rfl, rfl, .inl (.inl hq), h0, _, rfl, x, z, rfl, ⟨hz, hz2⟩, fun p hp => ?_⟩
      have ne : q ≠ p := ne_of_none hq hp
      refine ⟨p, _, rfl, .inl (.inl upd_same), rfl, _, _, rfl, _, rfl, q, [.int x, .int y], 0, 0, rfl, rfl, by rw [upd_ne ne]; exact hq, rfl, _, _, rfl, rfl, _, rfl, ?_⟩
      refine kq (x % z) (x / z) y _ (Int.emod_nonneg _ (by omega)) (Int.emod_lt_of_pos _ hz) (Int.ediv_nonneg hx (by omega)) hy hy2 (by rw [upd_same]; rfl) (fun a o ha h => ?_)
      rw [upd_ne ha, upd_ne (ne_of_none h hp)]
      exact h
    · rw [decide_eq_false hx0]
      show (if false = true then _ else _)
      rw [if_neg (by decide)]
      have m0 : (0 : Int) ≤ (y * 40529 + 31051) % 2147483587 := Int.emod_nonneg _ (by decide)
      have m1 : (y * 40529 + 31051) % 2147483587 < 2147483587 := Int.emod_lt_of_pos _ (by decide)
      refine ⟨_, rfl, q, [.int x, .int y], 1, .int y, rfl, rfl, .inl (.inl hq), h1, y, 40529, rfl, rfl, mulW_of (n := 40) (m := 40) (by omega) (by decide) (by decide) (by decide) (by decide), _, _, rfl, rfl, .inl ⟨_, rfl, _, _, rfl, rfl, (by show (0 : Int) < 2147483587; decide), ?_⟩⟩
      refine ⟨_, rfl, q, [.int x, .int y], 1, 1, rfl, rfl, hq, rfl, ?_⟩
      obtain ⟨y2, he⟩ : ∃ y2, y2 = (y * 40529 + 31051) % 2147483587 := ⟨_, rfl⟩
      rw [← he] at m0 m1
      have g0 : atI [V.int x, V.int y2] 1 = some (.int y2) := rfl
      have gq : ∀ o, o = [V.int x, V.int y2] → (upd H q (.lst o)) q = some (.lst [V.int x, V.int y2]) := fun o e => by rw [e, upd_same]
      have n0 : (0 : Int) ≤ (y2 * y2) % 2147483529 / 23 := Int.ediv_nonneg (Int.emod_nonneg _ (by decide)) (by decide)
      refine ⟨_, rfl, q, [.int x, .int y2], 1, .int y2, rfl, rfl, .inl (.inl (gq _ (by rw [he]; rfl))), g0, _, rfl, q, [.int x, .int y2], 1, .int y2, rfl, rfl, .inl (.inl (gq _ (by rw [he]; rfl))), g0, y2, y2, rfl, rfl, mulW_of (n := 40) (m := 40) (by omega) (by omega) (by decide) (by decide) (by decide), .inl ⟨_, rfl, _, _, rfl, rfl, (by show (0 : Int) < 2147483529; decide), _, _, rfl, rfl, ⟨by decide, by decide⟩, .inl ⟨_, rfl, _, rfl, _, _, rfl, rfl, hz, ?_⟩⟩⟩
      exact kq _ x y2 _ (Int.emod_nonneg _ (by omega)) (Int.emod_lt_of_pos _ hz) hx m0 (by omega) (gq _ (by rw [he]; rfl)) (fun a o ha h => by rw [upd_ne ha]; exact h)
abbrev sp__law_draw (_ : Addr) : Sp := PrP (ι := Nat) (fun n => [IsU n]) (fun n => 0 < n ∧ n < 1000) (fun n => Som (fun d : Nat => d < n) IsU)
theorem ok__law_draw (Z : Glo K mg C) {f : Addr} {fd : FuncData} (Fd : FnP K "_law_draw" st__law_draw f fd) : FnOk P w K mg base CX0 1 f fd ["pot", "size"] (sp__law_draw C) := by
  refine (ok_draw0 Z Fd).imp fun vs H Q E h => ?_
  obtain ⟨F, q, us, n, rfl, ok, a, ⟨hn, hn2⟩, kq⟩ := h
  cases a with
  | cons r t =>
    cases t
    obtain ⟨hF, x, y, hq, hx, hy, hy2⟩ := ok.p q rfl
    refine ⟨q, x, y, n, by rw [show _ = V.int (n : Int) from r.here], hq, hx, hy, hy2, by omega, by omega, fun d x' y' H' h1 h2 h3 h4 h5 h6 h7 => ?_⟩
    refine kq (.int d) F H' ?_ (fun F' _ => ⟨d.toNat, by omega, by show V.int d = V.int ((d.toNat : Nat) : Int); congr 1; omega⟩)
    exact {
      f := Ex.refl F
      s := fun a o h => h7 a o (fun e => by rw [e, hF] at h; cases h) (ok.s a o h)
      k := fun a o h hp => h7 a o (fun e => hp (by rw [e])) h
      n := fun a o h => .inl h
      p := fun a ha => by
        cases ha
        exact ⟨hF, x', y', h6, h3, h4, h5⟩ }
abbrev Kn__law_draw (P : Program) (w : World) (K : PySem.W.Frag) (mg : Str → Option Value) (base : Heap) (C : Addr) : Prop := Kn P w K mg base "_law_draw" 1 ["pot", "size"] (sp__law_draw C)
/-! ### the script -/
def IsScr (K : PySem.W.Frag) (ns : List Int) (v : V) (F : Hp) : Prop := ∃ a, v = .ref a ∧ SqL K F a (ns.map V.int)
theorem sql_ex {K : PySem.W.Frag} {F F' : Hp} {a : Addr} {xs : List V} (h : SqL K F a xs) (e : Ex F F') : SqL K F' a xs := by
  rcases h with h | h
  · rcases h with h | ⟨o, h⟩
    · exact .inl (.inl (e _ _ h))
    · exact .inl (.inr ⟨o, e _ _ h⟩)
  · exact .inr h
theorem rc_lenScr {K : PySem.W.Frag} {pp : Option Addr} {ns : List Int} : RC pp (fun us H Q => ∃ x n, us = [x] ∧ LenV K x H n ∧ Q (.int n) H) [IsScr K ns] (IsI (ns.length : Int)) := fun vs F H Q ok a k => by
  cases a with
  | cons r t =>
    cases t
    obtain ⟨p, rfl, h⟩ := r.here
    exact ⟨_, ns.length, rfl, .inl ⟨_, sql_ex h ok.s, by rw [List.length_map]⟩, k _ F H ok.gr fun F' _ => rfl⟩
theorem rop_ixScr {K : PySem.W.Frag} {pp : Option Addr} {ns : List Int} {j : Nat} (h : j < ns.length) : ROp pp (rIxL K) (IsScr K ns) (IsI (j : Int)) (IsI ns[j]!) := fun x y F H Q ok u1 u2 k => by
  obtain ⟨p, rfl, hs⟩ := u1.here
  rw [u2.here]
  exact ⟨p, _, _, .int ns[j]!, rfl, rfl, sql_ex hs ok.s, atI_nat (by rw [List.getElem?_map, List.getElem?_eq_getElem h, getElem!_pos ns j h]; rfl), k _ F H ok.gr fun F' _ => rfl⟩
theorem rop_pow {pp : Option Addr} {i j : Int} (h : CPow i j) : ROp pp (rI CPow fun i j => .int (i ^ j.toNat)) (IsI i) (IsI j) (IsI (i ^ j.toNat)) := rop_C h fun _ => rfl
def PotV (vs : List V) (_ : Hp) : Prop := ∃ x y : Int, vs = [.int x, .int y] ∧ 0 ≤ x ∧ 0 ≤ y ∧ y < 2 ^ 40
abbrev sp__law_pot (K : PySem.W.Frag) : Sp := PrM (ι := List Int) (fun ns => [IsScr K ns, IsI 0]) (fun _ => True) (fun _ => PotV)
theorem ok__law_pot (Z : Glo K mg C) {f : Addr} {fd : FuncData} (Fd : FnP K "_law_pot" st__law_pot f fd) : FnOk P w K mg base CX0 1 f fd ["script", "k"] (sp__law_pot K) := by
  refine fn_prM Fd sc__law_pot (fun u => rfl) (fun X u E hX hp hE => ?_)
  obtain ⟨cdv, A, outer, s, H, E', rfl, hr⟩ := hX
  refine PSs.nox ?_
  have nd := sc__law_pot.nd
  rename List Int => ns
  refine js_seq (js_set (R := Som (fun c : Int => 0 ≤ c) IsI) (ps_set (i := 2) nd rfl (.inl rfl) (je_if (b1 := decide ((0 : Int) < (ns.length : Int))) (jt_cmp (pt_cmpR op_lt (jv 1 (R := IsI 0)) (jbB call_len Z.len boot_len (ja_cons (jv 0 (R := IsScr K ns)) ja_nil) rc_lenScr) (nomark _)) rop_lt) (fun h => je_conv (jbB call_abs Z.abs boot_abs (ja_cons (je_op (pe_ix ix_list (jv 0 (R := IsScr K ns)) (jv 1 (R := IsI ((0 : Nat) : Int))) (fun _ _ => rfl)) (rop_ixScr ?_)) ja_nil) rc_abs) (fun v F h => ⟨_, ?_, h⟩)) (fun h => je_conv (je_op (pe_op op_add (je_op (pe_op op_mulW jI (jv 1 (R := IsI 0))) (rop_mulW (mulW_of (n := 20) (m := 20) (by decide) (by decide) (by decide) (by decide) (by decide)))) jI) rop_add) (fun v F h => ⟨_, ?_, h⟩))))) ?_
  · have h := of_decide_eq_true h
    omega
  · split <;> omega
  · decide
  refine js_open (i := 2) (P := fun c : Int => 0 ≤ c) (R := IsI) rfl (fun _ _ _ _ h _ => h) (fun c hc => ?_)
  have m0 : (0 : Int) ≤ c % 2147483529 := Int.emod_nonneg _ (by decide)
  have m1 : c % 2147483529 < 2147483529 := Int.emod_lt_of_pos _ (by decide)
  refine js_one (js_retM (jm_conv (jm_lst (Rs := [IsI (if c - 10 ^ 18 > 0 then c - 10 ^ 18 else 0), IsI ((c % 2147483529 * 41189 + 6863 * 0 + 607) % 2147483587 + 1)]) (pe_lst (ja_cons (jbB (call_max2 rfl) Z.max boot_max (ja_cons jI (ja_cons (je_op (pe_op op_sub (jv 2 (R := IsI c)) (je_eq (je_op (pe_op op_pow jI jI) (rop_pow (i := 10) (j := 18) ⟨by decide, by decide, by decide⟩)) (R' := IsI (10 ^ 18)) rfl)) rop_sub) ja_nil)) rc_max2) (ja_cons (je_op (pe_op op_add (je_op (pe_op op_mod (jbT call_int1 Z.int boot_int (ja_cons (je_op (pe_op op_add (je_op (pe_op op_add (je_op (pe_op op_mulW (je_op (pe_op op_mod (jbT call_int1 Z.int boot_int (ja_cons (jv 2 (R := IsI c)) ja_nil) rc_intI) jI) (rop_mod (by decide))) jI) (rop_mulW ?_)) (je_op (pe_op op_mulW jI (jv 1 (R := IsI 0))) (rop_mulW (mulW_of (n := 20) (m := 20) (by decide) (by decide) (by decide) (by decide) (by decide))))) rop_add) jI) rop_add) ja_nil) rc_intI) jI) (rop_mod (by decide))) jI) rop_add) ja_nil)))) (fun vs F a => ?_)))
  · exact mulW_of (n := 40) (m := 40) (by omega) (by decide) (by decide) (by decide) (by decide)
  · cases a with
    | cons r t =>
      cases t with
      | cons r2 t2 =>
        cases t2
        have n0 : (0 : Int) ≤ (c % 2147483529 * 41189 + 6863 * 0 + 607) % 2147483587 := Int.emod_nonneg _ (by decide)
        have n1 : (c % 2147483529 * 41189 + 6863 * 0 + 607) % 2147483587 < 2147483587 := Int.emod_lt_of_pos _ (by decide)
        refine ⟨_, _, by rw [show _ = V.int _ from r.here, show _ = V.int _ from r2.here], ?_, by omega, by omega⟩
        split <;> omega
/-! ### picks -/
def PickK (Rs : List (V → Hp → Prop)) (v : V) (F : Hp) : Prop := ∃ R, R ∈ Rs ∧ R v F
abbrev sp__law_pick (_ : Addr) : Sp := PrP (ι := Bool × List (V → Hp → Prop)) (fun w => [if w.1 then LstOf (Args w.2) else TupOf (Args w.2)]) (fun w => 0 < w.2.length ∧ w.2.length < 1000 ∧ ∀ R ∈ w.2, Mo R) (fun w => PickK w.2)
theorem pick_at {Rs : List (V → Hp → Prop)} {vs : List V} {F : Hp} {d : Nat} (a : Args Rs vs F) (h : d < Rs.length) : ∃ v, vs[d]? = some v ∧ PickK Rs v F := by
  obtain ⟨v, hv, u⟩ := Args.get a (List.getElem?_eq_getElem h)
  exact ⟨v, hv, Rs[d], List.getElem_mem h, u.here⟩
theorem mo_pick {Rs : List (V → Hp → Prop)} (h : ∀ R ∈ Rs, Mo R) : Mo (PickK Rs) := fun v F F' ⟨R, hR, r⟩ e => ⟨R, hR, h R hR v F F' r e⟩
theorem rop_pickL {K : PySem.W.Frag} {pp : Option Addr} {Rs : List (V → Hp → Prop)} (hm : ∀ R ∈ Rs, Mo R) : ROp pp (rIxL K) (LstOf (Args Rs)) (Som (fun d : Nat => d < Rs.length) IsU) (PickK Rs) := fun x y F H Q ok u1 u2 k => by
  obtain ⟨p, vs, rfl, hp, u⟩ := u1.here
  obtain ⟨d, hd, e⟩ := u2.here
  obtain ⟨v, hv, pk⟩ := pick_at u.here hd
  rw [show _ = V.int (d : Int) from e]
  exact ⟨p, vs, d, v, rfl, rfl, .inl (.inl (ok.s _ _ hp)), atI_nat hv, k v F H ok.gr ((mo_pick hm).up pk)⟩
theorem rop_pickT {K : PySem.W.Frag} {pp : Option Addr} {Rs : List (V → Hp → Prop)} (hm : ∀ R ∈ Rs, Mo R) : ROp pp (rIxT K) (TupOf (Args Rs)) (Som (fun d : Nat => d < Rs.length) IsU) (PickK Rs) := fun x y F H Q ok u1 u2 k => by
  obtain ⟨p, vs, rfl, hp, u⟩ := u1.here
  obtain ⟨d, hd, e⟩ := u2.here
  obtain ⟨v, hv, pk⟩ := pick_at u.here hd
  rw [show _ = V.int (d : Int) from e]
  exact ⟨p, vs, d, v, rfl, rfl, .inl (.inl (ok.s _ _ hp)), atI_nat hv, k v F H ok.gr ((mo_pick hm).up pk)⟩
theorem rc_lenAr {K : PySem.W.Frag} {pp : Option Addr} {Rs : List (V → Hp → Prop)} : RC pp (fun us H Q => ∃ x n, us = [x] ∧ LenV K x H n ∧ Q (.int n) H) [LstOf (Args Rs)] (IsU Rs.length) := fun vs F H Q ok a k => by
  cases a with
  | cons r t =>
    cases t
    obtain ⟨p, ws, rfl, hp, u⟩ := r.here
    exact ⟨_, Rs.length, rfl, .inl ⟨_, .inl (.inl (ok.s _ _ hp)), u.here.len⟩, k _ F H ok.gr fun F' _ => rfl⟩
abbrev Kn__law_pick (P : Program) (w : World) (K : PySem.W.Frag) (mg : Str → Option Value) (base : Heap) (C : Addr) : Prop := Kn P w K mg base "_law_pick" 2 ["pot", "some"] (sp__law_pick C)
theorem ok__law_pick (Z : Glo K mg C) (k__law_draw : Kn__law_draw P w K mg base C) {f : Addr} {fd : FuncData} (Fd : FnP K "_law_pick" st__law_pick f fd) : FnOk P w K mg base CX0 2 f fd ["pot", "some"] (sp__law_pick C) := by
  refine fn_prP Fd sc__law_pick (fun u => by first | rfl | (cases u <;> rfl)) (by decide) (fun X u E hX hp => ?_)
  obtain ⟨cdv, A, outer, s, H, E', rfl, hr⟩ := hX
  refine PSs.nox ?_
  have nd := (sc__law_pick).nd
  replace hr : Room 1 (cxOf CX0 P w K mg base N__law_pick "_law_pick" (defScope st__law_pick) f cdv A outer s H E').nox.A := hr
  obtain ⟨b, Rs⟩ := u
  obtain ⟨h0, h1, hm⟩ := hp
  have h0 : 0 < Rs.length := h0
  have h1 : Rs.length < 1000 := h1
  have hm : ∀ R ∈ Rs, Mo R := hm
  cases b with
  | true => exact js_one (js_ret (je_op (pe_ix ix_list (jv 1 (R := LstOf (Args Rs))) (jcP k__law_draw hr ⟨0, rfl⟩ Rs.length (ja_pot (pv 0) rfl (ja_cons (jbB call_len Z.len boot_len (ja_cons (jv 1 (R := LstOf (Args Rs))) ja_nil) rc_lenAr) ja_nil)) ⟨h0, h1⟩) (fun _ _ => rfl)) (rop_pickL hm)))
  | false => exact js_one (js_ret (je_op (pe_ix ix_tup (jv 1 (R := TupOf (Args Rs))) (jcP k__law_draw hr ⟨0, rfl⟩ Rs.length (ja_pot (pv 0) rfl (ja_cons (jbB call_len Z.len boot_len (ja_cons (jv 1 (R := TupOf (Args Rs))) ja_nil) rc_lenTp) ja_nil)) ⟨h0, h1⟩) (fun _ _ => rfl)) (rop_pickT hm)))
end
end Gw
set_option maxHeartbeats 4000000
namespace Gw
open PySem PySem.Spec PyProof.Rows L2
theorem q_sgn_neg (q : Rat) : decide (q.num.sign < 0) = decide (q < 0) := by
  rw [decide_eq_decide, Int.sign_neg_iff, Rat.lt_iff]
  simp
/-! ### the law's own guesses, in twelfths -/
abbrev LGu := List (Rat × Nat)
abbrev IsLp (C : Addr) (p : Rat × Nat) : V → Hp → Prop := IsTp [IsQ C p.1, IsU p.2]
abbrev IsLg (C : Addr) : LGu → V → Hp → Prop := IsL (IsLp C)
structure SzL (g : LGu) : Prop where
  l : g.length ≤ 10
  z : ∀ p ∈ g, Sz 100 p.1 ∧ p.2 < 2 ^ 20
def laL (g : LGu) (x : Rat) : List Rat := (g.filter fun p => decide (x - ((p.2 : Int) : Rat) < 0)).map fun p => p.1 * (((p.2 : Int) : Rat) - x)
def laR (g : LGu) (x : Rat) : Rat := sumR (laL g x)
theorem sz_n20 {n : Nat} (h : n < 2 ^ 20) : Sz 20 ((n : Int) : Rat) := ⟨by rw [Rat.num_intCast, Int.natAbs_natCast]; exact h, by rw [Rat.den_intCast]; decide⟩
theorem SzL.al {g : LGu} (h : SzL g) {x : Rat} (hx : Sz 200 x) : (∀ y ∈ laL g x, Sz 321 y) ∧ (laL g x).length ≤ 10 := by
  refine ⟨fun y hy => ?_, ?_⟩
  · obtain ⟨p, hp, rfl⟩ := List.mem_map.mp hy
    have hp := (List.mem_filter.mp hp).1
    exact (h.z p hp).1.mul ((sz_n20 (h.z p hp).2).sub hx)
  · unfold laL
    rw [List.length_map]
    exact Nat.le_trans (List.length_filter_le _ _) h.l
theorem SzL.ar {g : LGu} (h : SzL g) {x : Rat} (hx : Sz 200 x) : Sz 3400 (laR g x) := by
  obtain ⟨a, b⟩ := h.al hx
  exact (sz_sumR a).mono (by omega)
section
variable {P : Program} {w : World} {K : PySem.W.Frag} {mg : Str → Option Value} {base : Heap} {C : Addr}
abbrev sp__law_above (C : Addr) : Sp := Pr (ι := LGu × Rat) (fun w => [IsLg C w.1, IsQ C w.2]) (fun w => SzL w.1 ∧ Sz 200 w.2) (fun w => IsQ C (laR w.1 w.2))
abbrev Kn__law_above (P : Program) (w : World) (K : PySem.W.Frag) (mg : Str → Option Value) (base : Heap) (C : Addr) : Prop := Kn P w K mg base "_law_above" 13 ["guess", "number"] (sp__law_above C)
theorem ok__law_above (Z : Glo K mg C) (omul : Opr P w K mg base C .Mult 6 (fun w => Fits w.1 w.2) (· * ·)) (osub : Opr P w K mg base C .Sub 6 (fun w => Fits w.1 w.2) (· - ·)) (orsub : OprR P w K mg base C .Sub 6 (fun w => Fits w.1 w.2) (fun q r => r - q)) (psign : PropK P w K mg base C "sign" 1 (sp_Rsign C)) (ctotal : CmK P w K mg base C "total" 12 (sp_Rtotal C)) {f : Addr} {fd : FuncData} (Fd : FnP K "_law_above" st__law_above f fd) : FnOk P w K mg base CX0 13 f fd ["guess", "number"] (sp__law_above C) := by
  refine fn_pr Fd sc__law_above (fun u => by first | rfl | (cases u <;> rfl)) (fun _ => False) (fun _ _ h => h.elim) (fun X u E hX hp hE => ?_)
  obtain ⟨cdv, A, outer, s, H, E', rfl, hr⟩ := hX
  refine PSs.nox ?_
  have nd := (sc__law_above).nd
  replace hr : Room 12 (cxOf CX0 P w K mg base N__law_above "_law_above" (defScope st__law_above) f cdv A outer s H E').nox.A := hr
  obtain ⟨g, x⟩ := u
  obtain ⟨h1, h2⟩ : SzL g ∧ Sz 200 x := hp
  have hl := h1.l
  obtain ⟨a1, a2⟩ := h1.al h2
  exact js_one (js_ret (jcm ctotal hr (laL g x) rfl Z.rat (ja_cons (je_m (jm_lc (own := [("chance", 2), ("worth", 3)]) (Ry := IsQ C) (fun p : Rat × Nat => decide (x - ((p.2 : Int) : Rat) < 0)) (fun p : Rat × Nat => p.1 * (((p.2 : Int) : Rat) - x)) rfl nd (ji_list (Rx := IsLp C) (xs := g) (pi_list (jv 0))) (blkOk_by (by kernel_rfl)) (by decide) (fun s H C' cl fp p => jg2 2 3 nd) (fun s H C' cl fp p hx => jts_one (jt_eq (jt_cmp (pt_cmpR op_lt (jprop psign (hr.mono (by decide)) (x - ((p.2 : Int) : Rat)) (joQI osub (hr.mono (by decide)) (jv 1 (R := IsQ C x)) (jv 3 (R := IsU p.2)) (h2.fits (sz_n20 (h1.z p hx).2) (by decide))) rfl trivial rfl) jI (nomark _)) rop_lt) (by rw [q_sgn_neg]))) (fun s H C' cl fp p hx _ => joQ (q := p.1) (r := ((p.2 : Int) : Rat) - x) omul (hr.mono (by decide)) (jv 2 (R := IsQ C p.1)) (joIQ_sub orsub (hr.mono (by decide)) (jv 3 (R := IsU p.2)) (jv 1 (R := IsQ C x)) (h2.fits (sz_n20 (h1.z p hx).2) (by decide))) ((h1.z p hx).1.fits ((sz_n20 (h1.z p hx).2).sub h2) (by decide))) (line_of (m := 1000) (by omega)))) ja_nil) rfl ⟨FitsL.zero a1 (by omega), by omega⟩))
abbrev sp__law_is_hinge (C : Addr) : Sp := Pr (ι := LGu × LGu × Rat) (fun w => [IsLg C w.1, IsLg C w.2.1, IsQ C w.2.2]) (fun w => SzL w.1 ∧ SzL w.2.1 ∧ Sz 200 w.2.2) (fun w => IsB (decide (laR w.2.1 w.2.2 < laR w.1 w.2.2)))
abbrev Kn__law_is_hinge (P : Program) (w : World) (K : PySem.W.Frag) (mg : Str → Option Value) (base : Heap) (C : Addr) : Prop := Kn P w K mg base "_law_is_hinge" 14 ["guess", "other", "number"] (sp__law_is_hinge C)
theorem ok__law_is_hinge (Z : Glo K mg C) (k__law_above : Kn__law_above P w K mg base C) (mbelow : MethK P w K mg base C "is_below" 6 ["self", "other"] (sp_Ris_below C)) {f : Addr} {fd : FuncData} (Fd : FnP K "_law_is_hinge" st__law_is_hinge f fd) : FnOk P w K mg base CX0 14 f fd ["guess", "other", "number"] (sp__law_is_hinge C) := by
  refine fn_pr Fd sc__law_is_hinge (fun u => by first | rfl | (cases u <;> rfl)) (fun _ => False) (fun _ _ h => h.elim) (fun X u E hX hp hE => ?_)
  obtain ⟨cdv, A, outer, s, H, E', rfl, hr⟩ := hX
  refine PSs.nox ?_
  have nd := (sc__law_is_hinge).nd
  replace hr : Room 13 (cxOf CX0 P w K mg base N__law_is_hinge "_law_is_hinge" (defScope st__law_is_hinge) f cdv A outer s H E').nox.A := hr
  obtain ⟨g, o, x⟩ := u
  obtain ⟨h1, h2, h3⟩ : SzL g ∧ SzL o ∧ Sz 200 x := hp
  exact js_one (js_ret (jmeth mbelow (hr.mono (by decide)) (laR o x, laR g x) (jc k__law_above (hr.mono (by decide)) (o, x) (ja_cons (jv 1) (ja_cons (jv 2) ja_nil)) ⟨h2, h3⟩) (ja_cons (je_conv (jc k__law_above (hr.mono (by decide)) (g, x) (ja_cons (jv 0) (ja_cons (jv 2) ja_nil)) ⟨h1, h3⟩) isQ_nm) ja_nil) rfl ((h2.ar h3).fits (h1.ar h3) (by decide))))
end
end Gw
set_option maxHeartbeats 4000000
namespace Gw
open PySem PySem.Spec PyProof.Rows L2
def laH (g o : LGu) : Bool := !(((g ++ o).filter fun p => decide (laR o ((p.2 : Int) : Rat) < laR g ((p.2 : Int) : Rat))).map fun _ => (1 : Int)).isEmpty
/-- a worth as it is handed in -/
abbrev IsWn (C : Addr) (n : Nat) : V → Hp → Prop := IsQ C (Rat.divInt (n : Int) 12)
abbrev IsHp (C : Addr) (p : Rat × Nat) : V → Hp → Prop := IsTp [IsQ C p.1, IsWn C p.2]
abbrev IsHg (C : Addr) : LGu → V → Hp → Prop := IsL (IsHp C)
section
variable {P : Program} {w : World} {K : PySem.W.Frag} {mg : Str → Option Value} {base : Heap} {C : Addr}
abbrev sp__law_has_hinge (C : Addr) : Sp := Pr (ι := LGu × LGu) (fun w => [IsLg C w.1, IsLg C w.2]) (fun w => SzL w.1 ∧ SzL w.2) (fun w => IsB (laH w.1 w.2))
abbrev Kn__law_has_hinge (P : Program) (w : World) (K : PySem.W.Frag) (mg : Str → Option Value) (base : Heap) (C : Addr) : Prop := Kn P w K mg base "_law_has_hinge" 15 ["guess", "other"] (sp__law_has_hinge C)
theorem ok__law_has_hinge (Z : Glo K mg C) (mk : Mkr P w K mg base C 2) (k__law_is_hinge : Kn__law_is_hinge P w K mg base C) {f : Addr} {fd : FuncData} (Fd : FnP K "_law_has_hinge" st__law_has_hinge f fd) : FnOk P w K mg base CX0 15 f fd ["guess", "other"] (sp__law_has_hinge C) := by
  refine fn_pr Fd sc__law_has_hinge (fun u => by first | rfl | (cases u <;> rfl)) (fun _ => False) (fun _ _ h => h.elim) (fun X u E hX hp hE => ?_)
  obtain ⟨cdv, A, outer, s, H, E', rfl, hr⟩ := hX
  refine PSs.nox ?_
  have nd := (sc__law_has_hinge).nd
  replace hr : Room 14 (cxOf CX0 P w K mg base N__law_has_hinge "_law_has_hinge" (defScope st__law_has_hinge) f cdv A outer s H E').nox.A := hr
  obtain ⟨g, o⟩ := u
  obtain ⟨h1, h2⟩ : SzL g ∧ SzL o := hp
  have l1 := h1.l
  have l2 := h2.l
  have hz : ∀ p ∈ g ++ o, p.2 < 2 ^ 20 := fun p hp => by
    rcases List.mem_append.mp hp with h | h
    · exact (h1.z p h).2
    · exact (h2.z p h).2
  exact js_one (js_ret (je_op (pe_cmpR (op_neNil hr.units0) (je_m (jm_lc (own := [("chance", 2), ("worth", 3)]) (Ry := IsI) (fun p : Rat × Nat => decide (laR o ((p.2 : Int) : Rat) < laR g ((p.2 : Int) : Rat))) (fun _ : Rat × Nat => (1 : Int)) rfl nd (ji_list (Rx := IsLp C) (xs := g ++ o) (pi_list (je_m (jm_op (pe_op op_cat (jv 0 (R := IsLg C g)) (jv 1 (R := IsLg C o))) (rop_cat (by omega)))))) (blkOk_by (by kernel_rfl)) (by decide) (fun s H C' cl fp p => jg2 2 3 nd) (fun s H C' cl fp p hx => jts_one (jt_val (pt_val (jc k__law_is_hinge hr (g, o, ((p.2 : Int) : Rat)) (ja_cons (jv 0) (ja_cons (jv 1) (ja_cons (jmk1 mk (hr.mono (by decide)) (ja_cons (jv 3 (R := IsU p.2)) ja_nil)) ja_nil))) ⟨h1, h2, (sz_n20 (hz p hx)).mono (by decide)⟩)))) (fun s H C' cl fp p hx _ => jI) (line_of (m := 1000) (by rw [List.length_append]; omega)))) (je_m (jm_ls (R := IsI) ([] : List Int) (jm_lst (pe_lst ja_nil)))) (nomark _)) (rop_neE fun vs F h => by cases h; rfl)))
abbrev sp__law_handed (C : Addr) : Sp := Pr (ι := LGu) (fun g => [IsLg C g]) (fun g => SzL g) (fun g => IsHg C g)
abbrev Kn__law_handed (P : Program) (w : World) (K : PySem.W.Frag) (mg : Str → Option Value) (base : Heap) (C : Addr) : Prop := Kn P w K mg base "_law_handed" 4 ["guess"] (sp__law_handed C)
theorem ok__law_handed (Z : Glo K mg C) (mk : Mkr P w K mg base C 2) {f : Addr} {fd : FuncData} (Fd : FnP K "_law_handed" st__law_handed f fd) : FnOk P w K mg base CX0 4 f fd ["guess"] (sp__law_handed C) := by
  refine fn_pr Fd sc__law_handed (fun u => by first | rfl | (cases u <;> rfl)) (fun _ => False) (fun _ _ h => h.elim) (fun X u E hX hp hE => ?_)
  obtain ⟨cdv, A, outer, s, H, E', rfl, hr⟩ := hX
  refine PSs.nox ?_
  have nd := (sc__law_handed).nd
  replace hr : Room 3 (cxOf CX0 P w K mg base N__law_handed "_law_handed" (defScope st__law_handed) f cdv A outer s H E').nox.A := hr
  rename LGu => g
  have hp : SzL g := hp
  have hl := hp.l
  exact js_one (js_ret (je_eq (je_m (jlc (Ry := IsHp C) (fun p : Rat × Nat => p) [("chance", 1), ("worth", 2)] nd (ji_list (Rx := IsLp C) (xs := g) (pi_list (jv 0))) (fun s H C' cl fp x => jg2 1 2 nd) (fun s H C' cl fp x hx => je_tup (pe_tup (ja_cons (jv 1) (ja_cons (jmk2 mk (hr.mono (by decide)) (ja_cons (jv 2 (R := IsU x.2)) (ja_cons jI ja_nil)) ⟨by decide, by decide⟩) ja_nil)))) (line_of (m := 1000) (by omega)))) (by rw [List.map_id'])))
end
end Gw
set_option maxHeartbeats 4000000
/-! nested targets: (a, b), c and a, (b, c). -/
namespace Gw
open PySem PySem.Spec PyProof.Rows L2
section
variable {X : Cx} {E : En} {e : Expr} {Ra Rb Rc : V → Hp → Prop} {i j l : Nat} {K K' : PySem.W.Frag} {x y z : Str} {p p2 p3 ppos pos : Pos} {kk kk2 : Nat}
theorem jg_nestL (h : PG X e (gTup K 2 (gCons (gTup K' 2 (gCons (gName i) (gCons (gName j) gNil))) (gCons (gName l) gNil)))) : PG X e (tG E (IsTp [IsTp [Ra, Rb], Rc]) [i, j, l] (fun G => ((G.set i (.fz Ra)).set j (.fz Rb)).set l (.fz Rc))) := PG_imp h fun v σ H Q ⟨G, F, S, u, k⟩ => by
  obtain ⟨a, vs, rfl, ha, hu⟩ := u.here
  have hu := hu.here
  cases hu with
  | cons r1 t1 =>
    cases t1 with
    | cons r2 t2 =>
      cases t2
      obtain ⟨b, ws, rfl, hb, hw⟩ := r1.here
      have hw := hw.here
      cases hw with
      | cons s1 w1 =>
        cases w1 with
        | cons s2 w2 =>
          cases w2
          refine ⟨a, _, rfl, .inl (.inl (S.ok.s _ _ ha)), rfl, _, _, rfl, ⟨b, _, rfl, .inl (.inl (S.ok.s _ _ hb)), rfl, _, _, rfl, _, _, rfl, rfl, _, _, rfl, rfl, k _ (fun vs h => ?_) (((S.set_fz s1).set_fz s2).set_fz r2)⟩⟩
          rw [wipe_set (h l (by simp)), wipe_set (h j (by simp)), wipe_set (h i (by simp))]
theorem jg_nestR (h : PG X e (gTup K 2 (gCons (gName i) (gCons (gTup K' 2 (gCons (gName j) (gCons (gName l) gNil))) gNil)))) : PG X e (tG E (IsTp [Ra, IsTp [Rb, Rc]]) [i, j, l] (fun G => ((G.set i (.fz Ra)).set j (.fz Rb)).set l (.fz Rc))) := PG_imp h fun v σ H Q ⟨G, F, S, u, k⟩ => by
  obtain ⟨a, vs, rfl, ha, hu⟩ := u.here
  have hu := hu.here
  cases hu with
  | cons r1 t1 =>
    cases t1 with
    | cons r2 t2 =>
      cases t2
      obtain ⟨b, ws, rfl, hb, hw⟩ := r2.here
      have hw := hw.here
      cases hw with
      | cons s1 w1 =>
        cases w1 with
        | cons s2 w2 =>
          cases w2
          refine ⟨a, _, rfl, .inl (.inl (S.ok.s _ _ ha)), rfl, _, _, rfl, _, _, rfl, ⟨b, _, rfl, .inl (.inl (S.ok.s _ _ hb)), rfl, _, _, rfl, _, _, rfl, rfl, rfl, k _ (fun vs h => ?_) (((S.set_fz r1).set_fz s1).set_fz s2)⟩⟩
          rw [wipe_set (h l (by simp)), wipe_set (h j (by simp)), wipe_set (h i (by simp))]
theorem jgL (i j l : Nat) (hN : X.N.Nodup) (hc : X.calm = true := by rfl) (hi : X.N[i]? = some x := by exact rfl) (hj : X.N[j]? = some y := by exact rfl) (hl : X.N[l]? = some z := by exact rfl) (hx : Loc X.env.scope x := by first | exact .inl rfl | exact .inr rfl) (hf : X.fn x = true ∨ X.env.scope.names.lookup x = some .local := by first | exact .inl rfl | exact .inr rfl)
    (hx2 : Loc X.env.scope y := by first | exact .inl rfl | exact .inr rfl) (hf2 : X.fn y = true ∨ X.env.scope.names.lookup y = some .local := by first | exact .inl rfl | exact .inr rfl) (hx3 : Loc X.env.scope z := by first | exact .inl rfl | exact .inr rfl) (hf3 : X.fn z = true ∨ X.env.scope.names.lookup z = some .local := by first | exact .inl rfl | exact .inr rfl) :
    PG X (.Tuple [.Tuple [.Name x p, .Name y p2] kk2 ppos, .Name z p3] kk pos) (tG E (IsTp [IsTp [Ra, Rb], Rc]) [i, j, l] (fun G => ((G.set i (.fz Ra)).set j (.fz Rb)).set l (.fz Rc))) := jg_nestL (pg_tup hc (pgs_cons (pg_tup hc (pgs_cons (pg_name hN hi hx hf) (pgs_cons (pg_name hN hj hx2 hf2) pgs_nil))) (pgs_cons (pg_name hN hl hx3 hf3) pgs_nil)))
theorem jgR (i j l : Nat) (hN : X.N.Nodup) (hc : X.calm = true := by rfl) (hi : X.N[i]? = some x := by exact rfl) (hj : X.N[j]? = some y := by exact rfl) (hl : X.N[l]? = some z := by exact rfl) (hx : Loc X.env.scope x := by first | exact .inl rfl | exact .inr rfl) (hf : X.fn x = true ∨ X.env.scope.names.lookup x = some .local := by first | exact .inl rfl | exact .inr rfl)
    (hx2 : Loc X.env.scope y := by first | exact .inl rfl | exact .inr rfl) (hf2 : X.fn y = true ∨ X.env.scope.names.lookup y = some .local := by first | exact .inl rfl | exact .inr rfl) (hx3 : Loc X.env.scope z := by first | exact .inl rfl | exact .inr rfl) (hf3 : X.fn z = true ∨ X.env.scope.names.lookup z = some .local := by first | exact .inl rfl | exact .inr rfl) :
    PG X (.Tuple [.Name x p, .Tuple [.Name y p2, .Name z p3] kk2 ppos] kk pos) (tG E (IsTp [Ra, IsTp [Rb, Rc]]) [i, j, l] (fun G => ((G.set i (.fz Ra)).set j (.fz Rb)).set l (.fz Rc))) := jg_nestR (pg_tup hc (pgs_cons (pg_name hN hi hx hf) (pgs_cons (pg_tup hc (pgs_cons (pg_name hN hj hx2 hf2) (pgs_cons (pg_name hN hl hx3 hf3) pgs_nil))) pgs_nil)))
end
end Gw
set_option maxHeartbeats 1000000
namespace Gw
open PySem PySem.Spec PyProof.Rows L2
/-! ### the law's own judge of any value -/
def lsRow (o : LGu) (p : (Rat × Nat) × Dv) : Bool := match sqD p.2 with
  | none => false
  | some l => decide (l.length = o.length) && l.all isND && ((l.map nuV).all (fun x => decide (0 ≤ x)) && decide (sumR (l.map nuV) = 1)) && decide (sumR (((l.map nuV).zip o).map fun q => q.1 * ((q.2.2 : Int) : Rat)) = ((p.1.2 : Int) : Rat))
def lsE (g : LGu) (rows : List Dv) (j : Nat) : Rat := sumR ((g.zip rows).map fun p => p.1.1 * nuV (sqV p.2)[j]!)
def lsD (g o : LGu) (d : Dv) : Bool := match sqD d with
  | none => false
  | some rows => decide (rows.length = g.length) && (g.zip rows).all (lsRow o) && (enumN o).all fun p => decide (lsE g rows p.1 = p.2.1)
theorem lsRow_some {o : LGu} {p : (Rat × Nat) × Dv} {l : List Dv} (h : sqD p.2 = some l) : lsRow o p = (decide (l.length = o.length) && l.all isND && ((l.map nuV).all (fun x => decide (0 ≤ x)) && decide (sumR (l.map nuV) = 1)) && decide (sumR (((l.map nuV).zip o).map fun q => q.1 * ((q.2.2 : Int) : Rat)) = ((p.1.2 : Int) : Rat))) := by unfold lsRow; rw [h]
theorem lsRow_none {o : LGu} {p : (Rat × Nat) × Dv} (h : sqD p.2 = none) : lsRow o p = false := by unfold lsRow; rw [h]
theorem lsRow_yes {o : LGu} {p : (Rat × Nat) × Dv} (h : lsRow o p = true) : ∃ l, sqD p.2 = some l ∧ l.length = o.length ∧ ∀ z ∈ l, isND z = true := by
  cases e : sqD p.2 with
  | none => rw [lsRow_none e] at h; cases h
  | some l =>
    rw [lsRow_some e] at h
    simp only [Bool.and_eq_true, decide_eq_true_eq, List.all_eq_true] at h
    exact ⟨l, rfl, h.1.1.1, h.1.1.2⟩
theorem lsD_none {g o : LGu} {d : Dv} (h : sqD d = none) : lsD g o d = false := by unfold lsD; rw [h]
theorem lsD_some {g o : LGu} {d : Dv} {rows : List Dv} (h : sqD d = some rows) : lsD g o d = (decide (rows.length = g.length) && (g.zip rows).all (lsRow o) && (enumN o).all fun p => decide (lsE g rows p.1 = p.2.1)) := by unfold lsD; rw [h]
structure SzM (g : LGu) : Prop where
  l : g.length ≤ 4
  z : ∀ p ∈ g, Sz 100 p.1 ∧ p.2 < 2 ^ 20
theorem isi_Sqlt {K : PySem.W.Frag} {C : Addr} {pp : Option Addr} {l : List Dv} (F : RatF K C) (T : RatD K C) : RC pp (rIsiT K) [IsSq (IsDv C) l, TupOf (Args [IsC (.ty "list"), IsC (.ty "tuple")])] (IsB true) := fun vs F' H Q ok a k => by
  cases a with
  | cons u t =>
    rcases u.here with q | q
    · exact isi_Dlt (d := .lst l) F T _ F' H Q ok (.cons (fun F2 e => mo_dv (.lst l) _ _ _ (l_dv _ _ q) e) t) k
    · exact isi_Dlt (d := .tup l) F T _ F' H Q ok (.cons (fun F2 e => mo_dv (.tup l) _ _ _ (t_dv _ _ q) e) t) k
theorem not_b {b : Bool} (h : (!b) = true) : b = false := by cases b with
  | false => rfl
  | true => cases h
theorem not_b2 {b : Bool} (h : (!b) = false) : b = true := by cases b with
  | false => cases h
  | true => rfl
theorem filter_neg (l : List Rat) : (l.filter fun x => decide (x < 0)).isEmpty = l.all fun x => decide (0 ≤ x) := by
  induction l with
  | nil => rfl
  | cons x l ih =>
    rw [List.filter_cons, List.all_cons]
    by_cases h : x < 0
    · rw [if_pos (by simpa using h), decide_eq_false (Rat.not_le.mpr h)]
      rfl
    · rw [if_neg (by simpa using h), decide_eq_true (Rat.not_lt.mp h), ih]
      rfl
section
variable {P : Program} {w : World} {K : PySem.W.Frag} {mg : Str → Option Value} {base : Heap} {C : Addr}
abbrev sp__law_is_number (C : Addr) : Sp := Pr (ι := Dv) (fun d => [IsDv C d]) (fun _ => True) (fun d => IsB (isND d))
abbrev Kn__law_is_number (P : Program) (w : World) (K : PySem.W.Frag) (mg : Str → Option Value) (base : Heap) (C : Addr) : Prop := Kn P w K mg base "_law_is_number" 1 ["value"] (sp__law_is_number C)
theorem ok__law_is_number (Z : Glo K mg C)  {f : Addr} {fd : FuncData} (Fd : FnP K "_law_is_number" st__law_is_number f fd) : FnOk P w K mg base CX0 1 f fd ["value"] (sp__law_is_number C) := by
  refine fn_pr Fd sc__law_is_number (fun u => by first | rfl | (cases u <;> rfl)) (fun _ => False) (fun _ _ h => h.elim) (fun X u E hX hp hE => ?_)
  obtain ⟨cdv, A, outer, s, H, E', rfl, hr⟩ := hX
  refine PSs.nox ?_
  have nd := (sc__law_is_number).nd
  replace hr : Room 0 (cxOf CX0 P w K mg base N__law_is_number "_law_is_number" (defScope st__law_is_number) f cdv A outer s H E').nox.A := hr
  rename Dv => d
  exact js_one (js_ret (je_eq (je_or (jbB call_isi Z.isi boot_isinstance (ja_cons (jv 0 (R := IsDv C d)) (ja_cons (jglob (v := .ref C) Z.rat rfl) ja_nil)) (isi_DC Z.F Z.D)) fun _ => pe_one (je_and (jbB call_isi Z.isi boot_isinstance (ja_cons (jv 0 (R := IsDv C d)) (ja_cons (jty Z.int boot_int) ja_nil)) (isi_D Z.F Z.D)) fun _ => pe_one (je_not (jbB call_isi Z.isi boot_isinstance (ja_cons (jv 0 (R := IsDv C d)) (ja_cons (jty Z.bool boot_bool) ja_nil)) (isi_D Z.F Z.D))))) (by rw [← isND_eq]; cases d <;> rfl)))
abbrev sp__law_is_splitting (C : Addr) : Sp := Pr (ι := LGu × LGu × Dv) (fun w => [IsLg C w.1, IsLg C w.2.1, IsDv C w.2.2]) (fun w => SzM w.1 ∧ SzM w.2.1 ∧ DvN w.2.2) (fun w => IsB (lsD w.1 w.2.1 w.2.2))
abbrev Kn__law_is_splitting (P : Program) (w : World) (K : PySem.W.Frag) (mg : Str → Option Value) (base : Heap) (C : Addr) : Prop := Kn P w K mg base "_law_is_splitting" 14 ["guess", "other", "value"] (sp__law_is_splitting C)
theorem ok__law_is_splitting (Z : Glo K mg C) (k__law_is_number : Kn__law_is_number P w K mg base C) (mk : Mkr P w K mg base C 2) (oadd : Opr P w K mg base C .Add 6 (fun w => Fits w.1 w.2) (· + ·)) (omul : Opr P w K mg base C .Mult 6 (fun w => Fits w.1 w.2) (· * ·)) (oeq : EqK P w K mg base C 1) (psign : PropK P w K mg base C "sign" 1 (sp_Rsign C)) (ctotal : CmK P w K mg base C "total" 12 (sp_Rtotal C)) {f : Addr} {fd : FuncData} (Fd : FnP K "_law_is_splitting" st__law_is_splitting f fd) : FnOk P w K mg base CX0 14 f fd ["guess", "other", "value"] (sp__law_is_splitting C) := by
  refine fn_pr Fd sc__law_is_splitting (fun u => by first | rfl | (cases u <;> rfl)) (fun _ => False) (fun _ _ h => h.elim) (fun X u E hX hp hE => ?_)
  obtain ⟨cdv, A, outer, s, H, E', rfl, hr⟩ := hX
  refine PSs.nox ?_
  have nd := (sc__law_is_splitting).nd
  replace hr : Room 13 (cxOf CX0 P w K mg base N__law_is_splitting "_law_is_splitting" (defScope st__law_is_splitting) f cdv A outer s H E').nox.A := hr
  obtain ⟨g, o, d⟩ := u
  obtain ⟨hg, ho, hd⟩ : SzM g ∧ SzM o ∧ DvN d := hp
  have hgl := hg.l
  have hol := ho.l
  show PSs _ _ (tS E _ (Rn (IsB (lsD g o d))) _)
  cases hs : sqD d with
  | none =>
    rw [lsD_none hs]
    have hq : isSqD d = false := by rw [isSqD_iff, hs]; rfl
    exact js_cons (N1 := fun _ => False) (js_if (b1 := true) (PW.pt (jw_or (b1 := true) (b2 := true) (jt_eq (jt_not (jt_val (pt_val (jbB call_isiT Z.isi boot_isinstance (ja_cons (jv 2 (R := IsDv C d)) (ja_cons (je_tup (Rs := [IsC (.ty "list"), IsC (.ty "tuple")]) (pe_tup (ja_cons (jty Z.list boot_list) (ja_cons (jty Z.tuple boot_tuple) ja_nil)))) ja_nil)) (isi_Dlt Z.F Z.D))))) (by rw [hq]; rfl)) (fun h => nomatch h))) (fun _ => js_one (js_ret jBl)) (fun h => nomatch h)) (fun _ h => h.elim)
  | some rows =>
    obtain ⟨hrl, hrr⟩ := hd rows hs
    have hS := lsD_some (g := g) (o := o) hs
    have hq : isSqD d = true := by rw [isSqD_iff, hs]; rfl
    refine js_cons (N1 := fun G => rows.length = g.length ∧ G = G0 [IsLg C g, IsLg C o, IsDv C d] 11) (js_if (b1 := !decide (rows.length = g.length)) (jt_eq (PW.pt (jw_or (b1 := false) (jt_eq (jt_not (jt_val (pt_val (jbB call_isiT Z.isi boot_isinstance (ja_cons (jv 2 (R := IsDv C d)) (ja_cons (je_tup (Rs := [IsC (.ty "list"), IsC (.ty "tuple")]) (pe_tup (ja_cons (jty Z.list boot_list) (ja_cons (jty Z.tuple boot_tuple) ja_nil)))) ja_nil)) (isi_Dlt Z.F Z.D))))) (by rw [hq]; rfl)) fun _ => jw_or1 (jt_eq (jt_cmp (pt_cmpR op_ne (jbB call_len Z.len boot_len (ja_cons (je_conv (jv 2 (R := IsDv C d)) (dv_sq hs)) ja_nil) rc_lenS) (jbB call_len Z.len boot_len (ja_cons (jv 0 (R := IsLg C g)) ja_nil) rc_len) (nomark _)) rop_neI) (b2 := !decide (rows.length = g.length)) (by congr 1; rw [decide_eq_decide]; omega)))) rfl) (fun hb => ?_) (fun hb => js_nil ⟨?_, rfl⟩)) ?_
    · refine js_one (js_ret (je_eq jBl ?_))
      have : decide (rows.length = g.length) = false := by simpa using hb
      rw [hS, this]
      rfl
    · simpa using hb
    rintro _ ⟨hl, rfl⟩
    refine js_slot (i := 2) rfl (dv_sq hs) ?_
    have hS2 : lsD g o d = ((g.zip rows).all (lsRow o) && (enumN o).all fun p => decide (lsE g rows p.1 = p.2.1)) := by
      rw [hS, decide_eq_true hl]
      rfl
    rw [hS2]
    clear hS hS2
    refine js_cons (N1 := fun G => (g.zip rows).all (lsRow o) = true ∧ ∃ s3 s4 s5 s6, G = [.fz (IsLg C g), .fz (IsLg C o), .fz (IsSq (IsDv C) rows), s3, s4, s5, s6, .un, .un, .un, .un]) (js_for PassesOwn.never rfl (ji_zipG (Rx := IsLp C) (Ry := IsDv C) (xs := g) (ys := rows) (pi_zipG rfl Z.zip (ja_cons (je_conv (jv 0 (R := IsLg C g)) gq_sq) (ja_cons (jv 2) ja_nil)))) (fun x => jgL 3 4 5 nd) (fun i G => (∀ j q, (g.zip rows)[j]? = some q → j < i → lsRow o q = true) ∧ ∃ s3 s4 s5 s6, G = [.fz (IsLg C g), .fz (IsLg C o), .fz (IsSq (IsDv C) rows), s3, s4, s5, s6, .un, .un, .un, .un]) ⟨fun j q _ h => absurd h (Nat.not_lt_zero _), _, _, _, _, rfl⟩ ?_ (fun G1 h => ⟨all_yes h.1, h.2⟩)) ?_
    · rintro i p G1 hi ⟨hb4, s3, s4, s5, s6, rfl⟩
      have hm := List.mem_of_getElem? hi
      have hm2 := (List.of_mem_zip hm).2
      cases hs2 : sqD p.2 with
      | none =>
        have hq : isSqD p.2 = false := by rw [isSqD_iff, hs2]; rfl
        rw [all_no hm (lsRow_none hs2)]
        exact js_cons (N1 := fun _ => False) (js_if (b1 := true) (PW.pt (jw_or (b1 := true) (b2 := true) (jt_eq (jt_not (jt_val (pt_val (jbB call_isiT Z.isi boot_isinstance (ja_cons (jv 5 (R := IsDv C p.2)) (ja_cons (je_tup (Rs := [IsC (.ty "list"), IsC (.ty "tuple")]) (pe_tup (ja_cons (jty Z.list boot_list) (ja_cons (jty Z.tuple boot_tuple) ja_nil)))) ja_nil)) (isi_Dlt Z.F Z.D))))) (by rw [hq]; rfl)) (fun h => nomatch h))) (fun _ => js_one (js_ret jBl)) (fun h => nomatch h)) (fun _ h => h.elim)
      | some l =>
        obtain ⟨hll, hlz⟩ := hrr p.2 hm2 l hs2
        have hR := lsRow_some (o := o) hs2
        have hq : isSqD p.2 = true := by rw [isSqD_iff, hs2]; rfl
        refine js_slot (i := 5) rfl (dv_sq hs2) ?_
        refine js_cons (N1 := fun G => (l.length = o.length ∧ l.all isND = true) ∧ G = [.fz (IsLg C g), .fz (IsLg C o), .fz (IsSq (IsDv C) rows), .fz (IsQ C p.1.1), .fz (IsU p.1.2), .fz (IsSq (IsDv C) l), s6, .un, .un, .un, .un]) (js_if (b1 := (!decide (l.length = o.length) || !l.all isND)) (jt_eq (PW.pt (jw_or (b1 := false) (jt_eq (jt_not (jt_val (pt_val (jbB call_isiT Z.isi boot_isinstance (ja_cons (jv 5 (R := IsSq (IsDv C) l)) (ja_cons (je_tup (Rs := [IsC (.ty "list"), IsC (.ty "tuple")]) (pe_tup (ja_cons (jty Z.list boot_list) (ja_cons (jty Z.tuple boot_tuple) ja_nil)))) ja_nil)) (isi_Sqlt Z.F Z.D))))) rfl) fun _ => jw_or (jt_eq (jt_cmp (pt_cmpR op_ne (jbB call_len Z.len boot_len (ja_cons (jv 5 (R := IsSq (IsDv C) l)) ja_nil) rc_lenS) (jbB call_len Z.len boot_len (ja_cons (jv 1 (R := IsLg C o)) ja_nil) rc_len) (nomark _)) rop_neI) (b2 := !decide (l.length = o.length)) (by congr 1; rw [decide_eq_decide]; omega)) fun _ => jw_or1 (jt_not (b1 := l.all isND) (jt_val (pt_val (je_eq (jbB (cr_all rfl) Z.all boot_all (ja_cons (je_m (jlc (Ry := IsB) isND [("one", 10)] nd (ji_seq (i := 5) (Rx := IsDv C) (xs := l) (pi_list (pv 5)) (pi_tup (pv 5)) rfl) (fun s H C' cl fp x => jg1 10 nd) (fun s H C' cl fp x hx => jc k__law_is_number (hr.mono (by decide)) x (ja_cons (jv 10 (R := IsDv C x)) ja_nil) trivial) (line_of (m := 1000) (by omega)))) ja_nil) rc_all) (by rw [all_map_id]))))))) rfl) (fun hb => ?_) (fun hb => js_nil ⟨?_, rfl⟩)) ?_
        · refine js_one (js_ret (je_eq jBl ?_))
          rw [all_no hm]
          · rfl
          rw [hR]
          cases h1 : decide (l.length = o.length) with
          | false => rfl
          | true =>
            rw [h1] at hb
            have : l.all isND = false := by simpa using hb
            rw [this]
            rfl
        · simpa using hb
        rintro _ ⟨⟨hn, ha⟩, rfl⟩
        have ha' := List.all_eq_true.mp ha
        refine js_seq (jslc (i := 6) (Ry := IsQ C) (fun x : Dv => (0 : Rat) + nuV x) [("one", 10)] nd (ji_seq (i := 5) (Rx := IsDv C) (xs := l) (pi_list (pv 5)) (pi_tup (pv 5)) rfl) (fun s H C' cl fp x => jg1 10 nd) (fun s H C' cl fp x hx => joQN (q := 0) (r := nuV x) oadd (hr.mono (by decide)) (jmk1 mk (hr.mono (by decide)) (ja_cons jI ja_nil)) (je_conv (jv 10 (R := IsDv C x)) (dv_nm (ha' x hx))) (sz0.fits (hlz x hx) (by decide))) (line_of (m := 1000) (by omega))) ?_
        rw [show (fun x : Dv => (0 : Rat) + nuV x) = nuV from funext fun x => Rat.zero_add _]
        refine js_frz (i := 6) rfl ?_
        have hz : ∀ x ∈ l.map nuV, Sz 2000 x := fun y hy => by obtain ⟨z, hz, rfl⟩ := List.mem_map.mp hy; exact hlz z hz
        have hzl : (l.map nuV).length = o.length := by rw [List.length_map]; exact hn
        have c3 : FitsL 0 (l.map nuV) := FitsL.zero (n := 2000) hz (by omega)
        have a1 : ∀ q ∈ (l.map nuV).zip o, Fits q.1 ((q.2.2 : Int) : Rat) := fun q hq => (hz q.1 (List.of_mem_zip hq).1).fits (sz_n20 (ho.z q.2 (List.of_mem_zip hq).2).2) (by omega)
        have a2 : FitsL 0 (((l.map nuV).zip o).map fun q => q.1 * ((q.2.2 : Int) : Rat)) := FitsL.zero (n := 2020) (fun y hy => by
          obtain ⟨q, hq, rfl⟩ := List.mem_map.mp hy
          exact (hz q.1 (List.of_mem_zip hq).1).mul (sz_n20 (ho.z q.2 (List.of_mem_zip hq).2).2)) (by rw [List.length_map, List.length_zip]; omega)
        have hR2 : lsRow o p = ((l.map nuV).all (fun x => decide (0 ≤ x)) && decide (sumR (l.map nuV) = 1) && decide (sumR (((l.map nuV).zip o).map fun q => q.1 * ((q.2.2 : Int) : Rat)) = ((p.1.2 : Int) : Rat))) := by
          rw [hR, ha, decide_eq_true hn]
          rfl
        generalize hxs : l.map nuV = xs at *
        refine js_cons (N1 := fun G => ((xs.all (fun x => decide (0 ≤ x)) && decide (sumR xs = 1)) = true) ∧ G = [.fz (IsLg C g), .fz (IsLg C o), .fz (IsSq (IsDv C) rows), .fz (IsQ C p.1.1), .fz (IsU p.1.2), .fz (IsSq (IsDv C) l), .fz (IsL (IsQ C) xs), .un, .un, .un, .un]) (js_if (b1 := !(xs.all (fun x => decide (0 ≤ x)) && decide (sumR xs = 1))) (jt_eq (PW.pt (jw_or (b1 := !xs.all (fun x => decide (0 ≤ x))) (jt_eq (jt_cmp (pt_cmpR (op_neNil hr.units0) (je_m (jm_lc (own := [("one", 10)]) (Ry := IsQ C) (fun x : Rat => decide (x < 0)) (fun x : Rat => x) rfl nd (ji_list (Rx := IsQ C) (xs := xs) (pi_list (jv 6))) (blkOk_by (by kernel_rfl)) (by decide) (fun s H C' cl fp x => jg1 10 nd) (fun s H C' cl fp x hx => jts_one (jt_eq (jt_cmp (pt_cmpR op_lt (jprop psign (hr.mono (by decide)) x (jv 10 (R := IsQ C x)) rfl trivial rfl) jI (nomark _)) rop_lt) (by rw [q_sgn_neg]))) (fun s H C' cl fp x hx _ => jv 10) (line_of (m := 1000) (by omega)))) (je_m (jm_ls (R := IsQ C) ([] : List Rat) (jm_lst (pe_lst ja_nil)))) (nomark _)) (rop_neE fun vs F h => by cases h; rfl)) (by rw [List.map_id', filter_neg])) fun _ => jw_or1 (b1 := !decide (sumR xs = 1)) (jt_eq (jneQ oeq (hr.mono (by decide)) (jcm ctotal (hr.mono (by decide)) xs rfl Z.rat (ja_cons (jv 6 (R := IsL (IsQ C) xs)) ja_nil) rfl ⟨c3, by omega⟩) (jmk1 mk (hr.mono (by decide)) (ja_cons jI ja_nil))) rfl))) (by rw [Bool.not_and])) (fun hb => ?_) (fun hb => js_nil ⟨not_b2 hb, rfl⟩)) ?_
        · refine js_one (js_ret (je_eq jBl ?_))
          have : (xs.all (fun x => decide (0 ≤ x)) && decide (sumR xs = 1)) = false := not_b hb
          rw [all_no hm]
          · rfl
          rw [hR2, this]
          rfl
        rintro _ ⟨h3, rfl⟩
        rw [h3, Bool.true_and] at hR2
        refine js_one (js_if (b1 := !lsRow o p) (jt_eq (jneQ oeq (hr.mono (by decide)) (jcm ctotal (hr.mono (by decide)) ((xs.zip o).map fun q => q.1 * ((q.2.2 : Int) : Rat)) rfl Z.rat (ja_cons (je_m (jlc (Ry := IsQ C) (fun q : Rat × Rat × Nat => q.1 * ((q.2.2 : Int) : Rat)) [("one", 10), ("far", 7), ("more", 8)] nd (ji_zip (Rx := IsQ C) (Ry := IsLp C) (xs := xs) (ys := o) (pi_zip rfl Z.zip (ja_cons (jv 6) (ja_cons (jv 1) ja_nil)))) (fun s H C' cl fp x => jgR 10 7 8 nd) (fun s H C' cl fp x hx => joQI omul (hr.mono (by decide)) (jv 10 (R := IsQ C x.1)) (jv 8 (R := IsU x.2.2)) (a1 x hx)) (line_of (m := 1000) (by rw [List.length_zip]; omega)))) ja_nil) rfl ⟨a2, by rw [List.length_map, List.length_zip]; omega⟩) (jmk1 mk (hr.mono (by decide)) (ja_cons (jv 4 (R := IsU p.1.2)) ja_nil))) (by rw [hR2])) (fun hb => ?_) (fun hb => js_nil ⟨?_, _, _, _, _, rfl⟩))
        · refine js_one (js_ret (je_eq jBl ?_))
          rw [all_no hm (by simpa using hb)]
          rfl
        · intro j q hq hj
          by_cases ej : j = i
          · subst ej
            rw [hi] at hq
            cases hq
            simpa using hb
          · exact hb4 j q hq (by omega)
    rintro _ ⟨h1, s3, s4, s5, s6, rfl⟩
    have hch : ∀ q ∈ g.zip rows, ∃ l, sqD q.2 = some l ∧ sqV q.2 = l ∧ l.length = o.length ∧ (∀ z ∈ l, isND z = true) ∧ ∀ z ∈ l, Sz 2000 (nuV z) := fun q hq => by
      obtain ⟨l, e1, e2, e3⟩ := lsRow_yes (List.all_eq_true.mp h1 q hq)
      exact ⟨l, e1, sqV_some e1, e2, e3, (hrr q.2 (List.of_mem_zip hq).2 l e1).2⟩
    rw [h1, Bool.true_and]
    refine js_cons (N1 := fun G => ((enumN o).all fun p => decide (lsE g rows p.1 = p.2.1)) = true ∧ ∃ s7 s8 s9, G = [.fz (IsLg C g), .fz (IsLg C o), .fz (IsSq (IsDv C) rows), s3, s4, s5, s6, s7, s8, s9, .un]) (js_for PassesOwn.never rfl (ji_enumN (Rx := IsLp C) (xs := o) (pi_enum rfl Z.enum (ja_cons (jv 1) ja_nil))) (fun x => jgR 9 7 8 nd) (fun i G => (∀ j q, (enumN o)[j]? = some q → j < i → decide (lsE g rows q.1 = q.2.1) = true) ∧ ∃ s7 s8 s9, G = [.fz (IsLg C g), .fz (IsLg C o), .fz (IsSq (IsDv C) rows), s3, s4, s5, s6, s7, s8, s9, .un]) ⟨fun j q _ h => absurd h (Nat.not_lt_zero _), _, _, _, rfl⟩ ?_ (fun G1 h => ⟨all_yes h.1, h.2⟩)) ?_
    · rintro i p G1 hi ⟨hb4, s7, s8, s9, rfl⟩
      have hm := List.mem_of_getElem? hi
      obtain ⟨hj, hpo⟩ := mem_enumN hm
      have hz : ∀ q ∈ g.zip rows, ∃ l, sqD q.2 = some l ∧ isND l[p.1]! = true ∧ (sqV q.2)[p.1]! = l[p.1]! ∧ l[p.1]? = some l[p.1]! ∧ Sz 2000 (nuV l[p.1]!) := fun q hq => by
        obtain ⟨l, el, ev, ell, eln, elz⟩ := hch q hq
        have hjl : p.1 < l.length := by omega
        have hm : l[p.1]! ∈ l := by rw [getElem!_pos l _ hjl]; exact List.getElem_mem hjl
        exact ⟨l, el, eln _ hm, by rw [ev], by rw [getElem!_pos l _ hjl, List.getElem?_eq_getElem hjl], elz _ hm⟩
      have a1 : ∀ q ∈ g.zip rows, Fits q.1.1 (nuV (sqV q.2)[p.1]!) := fun q hq => by
        obtain ⟨l, _, _, e, _, z⟩ := hz q hq
        rw [e]
        exact (hg.z q.1 (List.of_mem_zip hq).1).1.fits z (by omega)
      have a2 : FitsL 0 ((g.zip rows).map fun q => q.1.1 * nuV (sqV q.2)[p.1]!) := FitsL.zero (n := 2100) (fun y hy => by
        obtain ⟨q, hq, rfl⟩ := List.mem_map.mp hy
        obtain ⟨l, _, _, e, _, z⟩ := hz q hq
        rw [e]
        exact ((hg.z q.1 (List.of_mem_zip hq).1).1.mul z).mono (by omega)) (by rw [List.length_map, List.length_zip]; omega)
      refine js_one (js_if (b1 := !decide (lsE g rows p.1 = p.2.1)) (jneQ oeq (hr.mono (by decide)) (jcm ctotal (hr.mono (by decide)) ((g.zip rows).map fun q => q.1.1 * nuV (sqV q.2)[p.1]!) rfl Z.rat (ja_cons (je_m (jlc (Ry := IsQ C) (fun q : (Rat × Nat) × Dv => q.1.1 * nuV (sqV q.2)[p.1]!) [("chance", 3), ("worth", 4), ("row", 5)] nd (ji_zipG (Rx := IsLp C) (Ry := IsDv C) (xs := g) (ys := rows) (pi_zipG rfl Z.zip (ja_cons (je_conv (jv 0 (R := IsLg C g)) gq_sq) (ja_cons (jv 2) ja_nil)))) (fun s H C' cl fp x => jgL 3 4 5 nd) (fun s H C' cl fp x hx => by
        obtain ⟨l, el, hn, e, hget, z⟩ := hz x hx
        exact joQN (q := x.1.1) (r := nuV (sqV x.2)[p.1]!) omul (hr.mono (by decide)) (jv 3 (R := IsQ C x.1.1)) (je_conv (je_op (pe_ix ix_seq (je_conv (jv 5 (R := IsDv C x.2)) (dv_sq el)) (jv 9 (R := IsU p.1)) (fun _ _ => rfl)) (rop_ixSq hget)) (by rw [e]; exact dv_nm hn)) (a1 x hx)) (line_of (m := 1000) (by rw [List.length_zip]; omega)))) ja_nil) rfl ⟨a2, by rw [List.length_map, List.length_zip]; omega⟩) (jv 7 (R := IsQ C p.2.1))) (fun hb => ?_) (fun hb => js_nil ⟨?_, _, _, _, rfl⟩))
      · refine js_one (js_ret (je_eq jBl ?_))
        rw [all_no (f := fun p : Nat × Rat × Nat => decide (lsE g rows p.1 = p.2.1)) hm (by simpa using hb)]
      · intro j q hq hj
        by_cases ej : j = i
        · subst ej
          rw [hi] at hq
          cases hq
          simpa using hb
        · exact hb4 j q hq (by omega)
    rintro _ ⟨h2, s7, s8, s9, rfl⟩
    exact js_one (js_ret (je_eq jBl (by rw [h2])))
end
end Gw
set_option maxHeartbeats 400000
/-! sorted(..) of ints. -/
namespace Gw
open PySem PySem.Spec PyProof.Rows L2
def srtI (xs : List Int) : List Int := xs.mergeSort (fun a b => decide (a ≤ b))
theorem srtI_perm (xs : List Int) : (srtI xs).Perm xs := List.mergeSort_perm xs _
theorem srtI_pw (xs : List Int) : (srtI xs).Pairwise (· ≤ ·) := by
  have h := List.pairwise_mergeSort (le := fun a b : Int => decide (a ≤ b)) (fun a b c h1 h2 => by simp at *; omega) (fun a b => by simp; omega) xs
  exact h.imp fun h => of_decide_eq_true h
theorem srt_uni {xs ys : List Int} (h : xs.Perm ys) (a : xs.Pairwise (· ≤ ·)) (b : ys.Pairwise (· ≤ ·)) : xs = ys := List.Perm.eq_of_pairwise (le := (· ≤ ·)) (fun a b _ _ h1 h2 => Int.le_antisymm h1 h2) a b h
theorem ls_int {F : Hp} : ∀ xs : List Int, LsOf IsI xs (xs.map V.int) F
  | [] => .nil
  | x :: xs => .cons (fun _ _ => rfl) (ls_int xs)
theorem rcm_sorted {pp : Option Addr} {K : PySem.W.Frag} {xs : List Int} (hl : xs.length < 64) : RCM pp (rSorted K) [IsL IsI xs] (LsOf IsI (srtI xs)) := fun vs F H Q ok a k => by
  cases a with
  | cons u a =>
    cases a
    obtain ⟨p, ws, rfl, hp, uu⟩ := u.here
    have e := ls_ints uu.here
    subst e
    refine ⟨p, xs, rfl, .inl (.inl (ok.s _ _ hp)), hl, fun ns' q h1 h2 hq => ?_⟩
    have e : ns' = srtI xs := srt_uni (h1.trans (srtI_perm xs).symm) h2 (srtI_pw xs)
    subst e
    exact k q _ F _ (Gr.raw ok hq) hq (ok.gr.back hq |> fun _ => by
      cases e : F q with
      | none => rfl
      | some o => have := ok.s _ _ e; rw [hq] at this; cases this) upd_same (ls_int _).up
end Gw
set_option maxHeartbeats 400000
namespace Gw
open PySem PySem.Spec PyProof.Rows L2
/-! ### parts of one worth put together -/
def jwL (ps : LGu) : List Int := ((enumN ps).filter fun p => !decide ((p.2.2 : Int) ∈ (ps.take p.1).map fun q => (q.2 : Int))).map fun p => (p.2.2 : Int)
def joinI (ps : LGu) : List (Rat × Int) := (srtI (jwL ps)).map fun n => (sumR ((ps.filter fun q => decide ((q.2 : Int) = n)).map fun q => q.1), n)
section
variable {P : Program} {w : World} {K : PySem.W.Frag} {mg : Str → Option Value} {base : Heap} {C : Addr}
abbrev sp__law_joined (C : Addr) : Sp := Pr (ι := LGu) (fun g => [IsLg C g]) (fun g => g.length ≤ 10 ∧ ∀ p ∈ g, Sz 400 p.1) (fun g => IsL (fun p : Rat × Int => IsTp [IsQ C p.1, IsI p.2]) (joinI g))
abbrev Kn__law_joined (P : Program) (w : World) (K : PySem.W.Frag) (mg : Str → Option Value) (base : Heap) (C : Addr) : Prop := Kn P w K mg base "_law_joined" 13 ["pairs"] (sp__law_joined C)
theorem ok__law_joined (Z : Glo K mg C) (ctotal : CmK P w K mg base C "total" 12 (sp_Rtotal C)) {f : Addr} {fd : FuncData} (Fd : FnP K "_law_joined" st__law_joined f fd) : FnOk P w K mg base CX0 13 f fd ["pairs"] (sp__law_joined C) := by
  refine fn_pr Fd sc__law_joined (fun u => by first | rfl | (cases u <;> rfl)) (fun _ => False) (fun _ _ h => h.elim) (fun X u E hX hp hE => ?_)
  obtain ⟨cdv, A, outer, s, H, E', rfl, hr⟩ := hX
  refine PSs.nox ?_
  have nd := (sc__law_joined).nd
  replace hr : Room 12 (cxOf CX0 P w K mg base N__law_joined "_law_joined" (defScope st__law_joined) f cdv A outer s H E').nox.A := hr
  rename LGu => g
  obtain ⟨hl, hz⟩ : g.length ≤ 10 ∧ ∀ p ∈ g, Sz 400 p.1 := hp
  have hjl : (jwL g).length ≤ 10 := by
    unfold jwL
    rw [List.length_map]
    exact Nat.le_trans (List.length_filter_le _ _) (by rw [enumN_len]; exact hl)
  have hsl : (srtI (jwL g)).length ≤ 10 := by rw [(srtI_perm _).length_eq]; exact hjl
  refine js_seq (js_setM (i := 1) (Rm := LsOf IsI (srtI (jwL g))) (ps_set (i := 1) nd rfl (.inl rfl) ?_)) ?_
  · exact jm_cb (pe_callB cr_sorted rfl Z.sorted boot_sorted (ja_cons (je_m (jm_lc (own := [("at", 2), ("chance", 3), ("worth", 7)]) (Ry := IsI) (fun p : Nat × Rat × Nat => !decide ((p.2.2 : Int) ∈ (g.take p.1).map fun q => (q.2 : Int))) (fun p : Nat × Rat × Nat => (p.2.2 : Int)) rfl nd (ji_enumN (Rx := IsLp C) (xs := g) (pi_enum rfl Z.enum (ja_cons (jv 0) ja_nil))) (blkOk_by (by kernel_rfl)) (by decide) (fun s H C' cl fp p => jgR 2 3 7 nd) (fun s H C' cl fp p hx => jts_one (jt_cmp (pt_cmpR op_notIn_seq (jv 7 (R := IsU p.2.2)) (je_m (jlc (Ry := IsI) (fun q : Rat × Nat => (q.2 : Int)) [("more", 4), ("other", 6)] nd (ji_list (Rx := IsLp C) (xs := g.take p.1) (pi_list (je_m (jm_slice (pe_slice sl_list (jv 0 (R := IsLg C g)) jo_none (jo_some (jv 2 (R := IsU p.1)))) (cut_to _ p.1 g rfl).symm)))) (fun s H C' cl fp x => jg2 4 6 nd) (fun s H C' cl fp x hx => jv 6) (line_of (m := 1000) (by rw [List.length_take]; omega)))) (by with_unfolding_all rfl)) rop_notIn)) (fun s H C' cl fp p hx _ => jv 7) (line_of (m := 1000) (by rw [enumN_len]; omega)))) ja_nil)) (rcm_sorted (xs := jwL g) (by omega))
  refine js_frz (i := 1) rfl ?_
  refine js_one (js_ret (je_m (jlc (Ry := fun p : Rat × Int => IsTp [IsQ C p.1, IsI p.2]) (fun n : Int => (sumR ((g.filter fun q => decide ((q.2 : Int) = n)).map fun q => q.1), n)) [("one", 5)] nd (ji_list (Rx := IsI) (xs := srtI (jwL g)) (pi_list (jv 1))) (fun s H C' cl fp x => jg1 5 nd) (fun s H C' cl fp x hx => je_tup (pe_tup (ja_cons ?_ (ja_cons (jv 5) ja_nil)))) (line_of (m := 1000) (by omega)))))
  have f1 : FitsL 0 ((g.filter fun q => decide ((q.2 : Int) = x)).map fun q => q.1) := FitsL.zero (n := 400) (fun y hy => by
    obtain ⟨p, hp', rfl⟩ := List.mem_map.mp hy
    exact hz p (List.mem_filter.mp hp').1) (by
    have := List.length_filter_le (fun q : Rat × Nat => decide ((q.2 : Int) = x)) g
    rw [List.length_map]
    omega)
  have f2 : ((g.filter fun q => decide ((q.2 : Int) = x)).map fun q => q.1).length ≤ 1000 := by
    have := List.length_filter_le (fun q : Rat × Nat => decide ((q.2 : Int) = x)) g
    rw [List.length_map]
    omega
  exact jcm ctotal (hr.mono (by decide)) ((g.filter fun q => decide ((q.2 : Int) = x)).map fun q => q.1) rfl Z.rat (ja_cons (je_m (jm_lc (own := [("chance", 3), ("worth", 7)]) (Ry := IsQ C) (fun q : Rat × Nat => decide ((q.2 : Int) = x)) (fun q : Rat × Nat => q.1) rfl nd (ji_list (Rx := IsLp C) (xs := g) (pi_list (jv 0))) (blkOk_by (by kernel_rfl)) (by decide) (fun s H C' cl fp p => jg2 3 7 nd) (fun s H C' cl fp p hx => jts_one (jt_cmp (pt_cmpR op_eq (jv 7 (R := IsU p.2)) (jv 5 (R := IsI x)) (nomark _)) rop_eqI)) (fun s H C' cl fp p hx _ => jv 3) (line_of (m := 1000) (by omega)))) ja_nil) rfl ⟨f1, f2⟩
end
end Gw
set_option maxHeartbeats 400000
namespace Gw
open PySem PySem.Spec PyProof.Rows L2
/-! ### one worth drawn up and down -/
def joinN (g : LGu) : LGu := (joinI g).map fun p => (p.1, p.2.toNat)
theorem joinI_nn {g : LGu} : ∀ p ∈ joinI g, 0 ≤ p.2 := fun p hp => by
  obtain ⟨n, hn, rfl⟩ := List.mem_map.mp hp
  have h1 := (srtI_perm _).mem_iff.mp hn
  obtain ⟨q, _, rfl⟩ := List.mem_map.mp h1
  exact Int.natCast_nonneg _
theorem ls_toNat {C : Addr} {F : Hp} : ∀ {xs : List (Rat × Int)} {vs : List V}, (∀ p ∈ xs, 0 ≤ p.2) → LsOf (fun p : Rat × Int => IsTp [IsQ C p.1, IsI p.2]) xs vs F → LsOf (IsLp C) (xs.map fun p => (p.1, p.2.toNat)) vs F
  | [], vs, _, l => by cases l; exact .nil
  | x :: xs, vs, h, l => by
    cases l with
    | cons u t =>
      refine .cons ?_ (ls_toNat (fun p hp => h p (List.mem_cons_of_mem _ hp)) t)
      have e : ((x.2.toNat : Nat) : Int) = x.2 := Int.toNat_of_nonneg (h x (List.mem_cons_self ..))
      show Up (IsTp [IsQ C x.1, IsI ((x.2.toNat : Nat) : Int)]) _ F
      rw [e]
      exact u
theorem join_conv {C : Addr} {g : LGu} : ∀ v F, IsL (fun p : Rat × Int => IsTp [IsQ C p.1, IsI p.2]) (joinI g) v F → IsLg C (joinN g) v F := fun v F ⟨a, vs, e, h, u⟩ => ⟨a, vs, e, h, u.imp fun F l => ls_toNat joinI_nn l⟩
def partUp (p : Rat × Nat) (lo hi : Nat) : LGu := [(p.1 * Rat.divInt (hi : Int) ((lo : Int) + (hi : Int)), p.2 - lo), (p.1 * Rat.divInt (lo : Int) ((lo : Int) + (hi : Int)), p.2 + hi)]
def P4 (h : Nat) : Prop := h = 3 ∨ h = 4 ∨ h = 6 ∨ h = 12
def Opt (p : Rat × Nat) (l : LGu) : Prop := l = [p] ∨ ∃ lo hi, 0 < lo ∧ lo ≤ p.2 ∧ lo ≤ 12 ∧ P4 hi ∧ l = partUp p lo hi
def OutOf (g out : LGu) : Prop := ∃ ls : List LGu, Paired Opt g ls ∧ out = ls.flatten
theorem OutOf.nil : OutOf [] [] := ⟨[], .nil, rfl⟩
theorem OutOf.snoc {g out l : LGu} {p : Rat × Nat} (h : OutOf g out) (k : Opt p l) : OutOf (g ++ [p]) (out ++ l) := by
  obtain ⟨ls, a, rfl⟩ := h
  exact ⟨ls ++ [l], Paired.snoc a k, by rw [List.flatten_append]; simp⟩
theorem Opt.len {p : Rat × Nat} {l : LGu} (h : Opt p l) : l.length ≤ 2 := by
  rcases h with rfl | ⟨lo, hi, _, _, _, _, rfl⟩
  · show 1 ≤ 2
    omega
  · exact Nat.le_refl 2
theorem OutOf.len {g out : LGu} (h : OutOf g out) : out.length ≤ 2 * g.length := by
  obtain ⟨ls, a, rfl⟩ := h
  induction a with
  | nil => exact Nat.le_refl 0
  | cons k _ ih =>
    have := k.len
    rw [List.flatten_cons, List.length_append, List.length_cons]
    omega
theorem pick4 {v : V} {F : Hp} (h : PickK [IsI 3, IsI 4, IsI 6, IsI 12] v F) : Som P4 IsU v F := by
  obtain ⟨R, hR, r⟩ := h
  simp only [List.mem_cons, List.not_mem_nil, or_false] at hR
  rcases hR with rfl | rfl | rfl | rfl
  · exact ⟨3, .inl rfl, r⟩
  · exact ⟨4, .inr (.inl rfl), r⟩
  · exact ⟨6, .inr (.inr (.inl rfl)), r⟩
  · exact ⟨12, .inr (.inr (.inr rfl)), r⟩
theorem P4.le {h : Nat} (k : P4 h) : 3 ≤ h ∧ h ≤ 12 := by unfold P4 at k; omega
theorem rc_minP {pp : Option Addr} {n : Nat} : RC pp (fun xs H Q => ∃ i j, xs = [.int i, .int j] ∧ Q (.int (if j < i then j else i)) H) [IsU n, Som P4 IsU] (Som (fun l : Nat => l ≤ n ∧ l ≤ 12) IsU) := fun vs F H Q ok a k => by
  cases a with
  | cons u1 a =>
    cases a with
    | cons u2 a =>
      cases a
      obtain ⟨x, px, e⟩ := u2.here
      have px := px.le
      rw [show _ = V.int (n : Int) from u1.here, show _ = V.int (x : Int) from e]
      refine ⟨_, _, rfl, k _ F H ok.gr fun F' _ => ⟨if x < n then x else n, by split <;> omega, ?_⟩⟩
      show V.int _ = V.int _
      congr 1
      split <;> split <;> omega
theorem wd_sm {lo hi : Nat} (h1 : lo ≤ 12) (h2 : hi ≤ 12) (h0 : 0 < lo) : Sz 10 (Rat.divInt (hi : Int) ((lo : Int) + (hi : Int))) ∧ Sz 10 (Rat.divInt (lo : Int) ((lo : Int) + (hi : Int))) := by
  have hb : ((lo : Int) + (hi : Int)) ≠ 0 := by omega
  have a1 := num_le (hi : Int) _ hb
  have a2 := den_le (hi : Int) _ hb
  have b1 := num_le (lo : Int) _ hb
  have b2 := den_le (lo : Int) _ hb
  refine ⟨⟨?_, ?_⟩, ⟨?_, ?_⟩⟩ <;> omega
theorem OutOf.sz {g out : LGu} (h : OutOf g out) (hz : ∀ p ∈ g, Sz 100 p.1) : ∀ q ∈ out, Sz 110 q.1 := by
  obtain ⟨ls, a, rfl⟩ := h
  induction a with
  | nil => intro q hq; simp at hq
  | cons k _ ih =>
    intro q hq
    rw [List.flatten_cons, List.mem_append] at hq
    rcases hq with hq | hq
    · have hp := hz _ (List.mem_cons_self ..)
      rcases k with rfl | ⟨lo, hi, h0, _, h2, h3, rfl⟩
      · rw [List.mem_singleton.mp hq]
        exact hp.mono (by decide)
      · obtain ⟨w1, w2⟩ := wd_sm (lo := lo) (hi := hi) h2 h3.le.2 h0
        unfold partUp at hq
        rcases List.mem_cons.mp hq with rfl | hq
        · exact hp.mul w1
        · rw [List.mem_singleton.mp hq]
          exact hp.mul w2
    · exact ih (fun p hp => hz p (List.mem_cons_of_mem _ hp)) q hq
theorem mo_IU : ∀ n : Nat, Mo (IsU n) := fun n _ _ _ h _ => h
section
variable {P : Program} {w : World} {K : PySem.W.Frag} {mg : Str → Option Value} {base : Heap} {C : Addr}
def Sp1 (m : Nat) (g g' : LGu) : Prop := g' = g ∨ ∃ out, OutOf g out ∧ g' = joinN out ∧ (joinN out).length ≤ m
abbrev sp__law_spread_out (C : Addr) : Sp := PrP (ι := LGu × Nat) (fun w => [IsLg C w.1, IsU w.2]) (fun w => w.1.length ≤ 4 ∧ ∀ p ∈ w.1, Sz 100 p.1 ∧ p.2 < 2 ^ 10) (fun w => Som (Sp1 w.2 w.1) (IsLg C))
abbrev Kn__law_spread_out (P : Program) (w : World) (K : PySem.W.Frag) (mg : Str → Option Value) (base : Heap) (C : Addr) : Prop := Kn P w K mg base "_law_spread_out" 14 ["pot", "guess", "most"] (sp__law_spread_out C)
theorem ok__law_spread_out (Z : Glo K mg C) (mk : Mkr P w K mg base C 2) (omul : Opr P w K mg base C .Mult 6 (fun w => Fits w.1 w.2) (· * ·)) (k__law_draw : Kn__law_draw P w K mg base C) (k__law_pick : Kn__law_pick P w K mg base C) (k__law_joined : Kn__law_joined P w K mg base C) {f : Addr} {fd : FuncData} (Fd : FnP K "_law_spread_out" st__law_spread_out f fd) : FnOk P w K mg base CX0 14 f fd ["pot", "guess", "most"] (sp__law_spread_out C) := by
  refine fn_prP Fd sc__law_spread_out (fun u => by first | rfl | (cases u <;> rfl)) (by decide) (fun X u E hX hp => ?_)
  obtain ⟨cdv, A, outer, s, H, E', rfl, hr⟩ := hX
  refine PSs.nox ?_
  have nd := (sc__law_spread_out).nd
  replace hr : Room 13 (cxOf CX0 P w K mg base N__law_spread_out "_law_spread_out" (defScope st__law_spread_out) f cdv A outer s H E').nox.A := hr
  obtain ⟨g, m⟩ := u
  obtain ⟨hl, hz⟩ : g.length ≤ 4 ∧ ∀ p ∈ g, Sz 100 p.1 ∧ p.2 < 2 ^ 10 := hp
  refine js_seq (js_setM (i := 3) (Rm := SomM (OutOf (g.take 0)) (LsOf (IsLp C))) (ps_set (i := 3) nd rfl (.inl rfl) (jm_conv (jm_ls (R := IsLp C) ([] : LGu) (jm_lst (pe_lst ja_nil))) (fun vs F h => ⟨[], OutOf.nil, h⟩)))) ?_
  refine js_cons (N1 := fun G => ∃ s4 s5 s6 s7, G = [.pot, .fz (IsLg C g), .fz (IsU m), .mt (SomM (OutOf g) (LsOf (IsLp C))), s4, s5, s6, s7]) (js_for PassesOwn.never rfl (ji_list (Rx := IsLp C) (xs := g) (pi_list (jv 1))) (fun x => jg2 4 5 nd) (fun i G => ∃ s4 s5 s6 s7, G = [.pot, .fz (IsLg C g), .fz (IsU m), .mt (SomM (OutOf (g.take i)) (LsOf (IsLp C))), s4, s5, s6, s7]) ⟨_, _, _, _, rfl⟩ ?_ (fun G1 h => by rwa [List.take_length] at h)) ?_
  · rintro i p G1 hi ⟨s4, s5, s6, s7, rfl⟩
    obtain ⟨z1, z2⟩ := hz p (List.mem_of_getElem? hi)
    refine js_seq (js_par (i := 6) (j := 7) (Ra := Som (fun l : Nat => l ≤ p.2 ∧ l ≤ 12) IsU) (Rb := Som P4 IsU) (ps_par (i := 6) (j := 7) rfl nd rfl rfl (by decide) rfl rfl (pa_cons (jbB (call_min2 rfl) Z.min boot_min (ja_cons (jv 5 (R := IsU p.2)) (ja_cons (je_conv (jcP k__law_pick (hr.mono (by decide)) ⟨0, rfl⟩ (true, [IsI 3, IsI 4, IsI 6, IsI 12]) (ja_pot (pv 0) rfl (ja_cons (je_m (jm_lst (pe_lst (ja_cons jI (ja_cons jI (ja_cons jI (ja_cons jI ja_nil))))))) ja_nil)) ⟨by decide, by decide, fun R hR => by simp at hR; rcases hR with rfl | rfl | rfl | rfl <;> exact fun _ _ _ h _ => h⟩) (fun v F h => pick4 h)) ja_nil)) rc_minP) (pa_cons (je_conv (jcP k__law_pick (hr.mono (by decide)) ⟨0, rfl⟩ (true, [IsI 3, IsI 4, IsI 6, IsI 12]) (ja_pot (pv 0) rfl (ja_cons (je_m (jm_lst (pe_lst (ja_cons jI (ja_cons jI (ja_cons jI (ja_cons jI ja_nil))))))) ja_nil)) ⟨by decide, by decide, fun R hR => by simp at hR; rcases hR with rfl | rfl | rfl | rfl <;> exact fun _ _ _ h _ => h⟩) (fun v F h => pick4 h)) pa_nil)) rfl)) ?_
    refine js_open (i := 6) rfl (fun x v F F' h e => h) fun lo hlo => ?_
    refine js_open (i := 7) rfl (fun x v F F' h e => h) fun hi' hhi => ?_
    have hP := hhi.le
    refine js_one (js_ifS (Pb := fun b => b = true → 0 < lo) (PW.pt (jwS_and (b1 := decide ((0 : Int) < (lo : Int))) (jt_cmp (pt_cmpR op_gt (jv 6 (R := IsU lo)) jI (nomark _)) rop_gt) (fun h => jwS_and1 (jts_cmp (pt_cmpR op_gt (jcP k__law_draw (hr.mono (by decide)) ⟨0, rfl⟩ 3 (ja_pot (pv 0) rfl (ja_cons jI ja_nil)) ⟨by decide, by decide⟩) jI (nomark _)) (rop_somL (fun _ => mo_I) fun d _ => rop_to rop_gt fun v F h' => ⟨_, fun _ => by have := of_decide_eq_true h; omega, h'⟩))) (fun _ h => nomatch h))) (fun h => ?_) (fun _ => ?_))
    · have h0 := h rfl
      have hz1 : Ht ((lo : Int) + (hi' : Int)) := ⟨by omega, log2_lt (n := 9000) (by decide) (Nat.lt_of_lt_of_le (m := 2 ^ 10) (by omega) (Nat.pow_le_pow_right (by decide) (by decide)))⟩
      have w1 := wd_sm (lo := lo) (hi := hi') hlo.2 hP.2 h0
      refine js_one (js_N (js_extend (i := 3) (Rx := IsLp C) (ys := partUp p lo hi') (Rm' := SomM (OutOf (g.take (i + 1))) (LsOf (IsLp C))) (ps_expr (pe_bm PySem.F.plainAttrs_list PySem.F.slot_list_extend PySem.F.type_list_extend mt_extend (pv 3) (pa_cons (je_m (jm_ls (R := IsLp C) (partUp p lo hi') (jm_lst (pe_lst (ja_cons (je_tup (pe_tup (ja_cons (joQ (q := p.1) omul (hr.mono (by decide)) (jv 4 (R := IsQ C p.1)) (jmk2 mk (hr.mono (by decide)) (ja_cons (jv 7 (R := IsU hi')) (ja_cons (je_op (pe_op op_add (jv 6 (R := IsU lo)) (jv 7 (R := IsU hi'))) rop_add) ja_nil)) hz1) (z1.fits w1.1 (by decide))) (ja_cons (je_eq (je_op (pe_op op_sub (jv 5 (R := IsU p.2)) (jv 6 (R := IsU lo))) rop_sub) ?_) ja_nil)))) (ja_cons (je_tup (pe_tup (ja_cons (joQ (q := p.1) omul (hr.mono (by decide)) (jv 4 (R := IsQ C p.1)) (jmk2 mk (hr.mono (by decide)) (ja_cons (jv 6 (R := IsU lo)) (ja_cons (je_op (pe_op op_add (jv 6 (R := IsU lo)) (jv 7 (R := IsU hi'))) rop_add) ja_nil)) hz1) (z1.fits w1.2 (by decide))) (ja_cons (je_eq (je_op (pe_op op_add (jv 5 (R := IsU p.2)) (jv 7 (R := IsU hi'))) rop_add) ?_) ja_nil)))) ja_nil)))))) pa_nil)) rfl) rfl (fun vs ws F a b => ?_) (fun vs F a => ?_)) ?_)
      · show IsI _ = IsI _
        congr 1
        omega
      · show IsI _ = IsI _
        congr 1
      · obtain ⟨out, ho, l⟩ := a.here
        refine fun F' e' => ⟨out ++ partUp p lo hi', ?_, (LsOf.up (paired_app l b)) F' e'⟩
        rw [List.take_add_one, hi]
        exact ho.snoc (.inr ⟨lo, hi', h0, hlo.1, hlo.2, hhi, rfl⟩)
      · obtain ⟨out, ho, l⟩ := a
        rw [← l.len]
        have := ho.len
        rw [List.length_take] at this
        show _ + 2 ≤ _
        have h9 : (1000 : Nat) ≤ sizeLine := by decide
        omega
      · rintro G' rfl
        exact ⟨_, _, _, _, rfl⟩
    · refine js_one (js_N (js_append (i := 3) (R := IsLp C p) (Rm' := SomM (OutOf (g.take (i + 1))) (LsOf (IsLp C))) (ps_expr (pe_bm PySem.F.plainAttrs_list PySem.F.slot_list_append PySem.F.type_list_append mt_append (pv 3) (pa_cons (je_tup (pe_tup (ja_cons (jv 4 (R := IsQ C p.1)) (ja_cons (jv 5 (R := IsU p.2)) ja_nil)))) pa_nil)) rfl) rfl (fun vs v F a b => ?_) (fun vs F a => ?_)) ?_)
      · obtain ⟨out, ho, l⟩ := a.here
        refine fun F' e' => ⟨out ++ [p], ?_, (l.snoc b).up F' e'⟩
        rw [List.take_add_one, hi]
        exact ho.snoc (.inl rfl)
      · obtain ⟨out, ho, l⟩ := a
        rw [← l.len]
        have := ho.len
        rw [List.length_take] at this
        exact line_of (m := 1000) (by omega)
      · rintro G' rfl
        exact ⟨_, _, _, _, rfl⟩
  · rintro _ ⟨s4, s5, s6, s7, rfl⟩
    refine js_openM (i := 3) rfl (fun x vs F F' h e => h.up F' e) (fun out ho => ?_)
    refine js_frz (i := 3) rfl ?_
    have hol := ho.len
    refine js_seq (js_set (i := 3) (R := IsLg C (joinN out)) (ps_set (i := 3) nd rfl (.inl rfl) (je_conv (jc k__law_joined (hr.mono (by decide)) out (ja_cons (jv 3 (R := IsLg C out)) ja_nil) ⟨by omega, fun p hp => (ho.sz (fun q hq => (hz q hq).1) p hp).mono (by decide)⟩) join_conv))) ?_
    exact js_one (js_ret (je_if (b1 := decide ((joinN out).length ≤ m)) (jt_eq (jt_cmp (pt_cmpR op_le (jbB call_len Z.len boot_len (ja_cons (jv 3 (R := IsLg C (joinN out))) ja_nil) rc_len) (jv 2 (R := IsU m)) (nomark _)) rop_le) (by rw [decide_eq_decide]; omega)) (fun h => je_conv (jv 3 (R := IsLg C (joinN out))) (fun v F q => ⟨joinN out, .inr ⟨out, ho, rfl, of_decide_eq_true h⟩, q⟩)) (fun h => je_conv (jv 1 (R := IsLg C g)) (fun v F q => ⟨g, .inl rfl, q⟩))))
end
end Gw
set_option maxHeartbeats 400000
namespace Gw
open PySem PySem.Spec PyProof.Rows L2
/-! ### guesses made by drawing worths up and down; what the law is about, in plain words -/
def gOne : LGu := [(((1 : Int) : Rat), 12)]
def Mk (m : Nat) : Nat → LGu → Prop
  | 0, g => g = gOne
  | k + 1, g => ∃ g0, Mk m k g0 ∧ Sp1 m g0 g
theorem Mk.succ {m k : Nat} {g : LGu} (h : Mk m k g) : Mk m (k + 1) g := ⟨g, h, .inl rfl⟩
theorem Mk.up {m k l : Nat} {g : LGu} (h : Mk m k g) (hl : k ≤ l) : Mk m l g := by
  induction l with
  | zero => rwa [show k = 0 by omega] at h
  | succ l ih =>
    by_cases e : k = l + 1
    · rwa [e] at h
    · exact (ih (by omega)).succ
/-- as they are handed in -/
def scG (g : LGu) : List (Rat × Rat) := g.map fun p => (p.1, Rat.divInt (p.2 : Int) 12)
structure GOk (g : LGu) : Prop where
  sl : SzL g
  gp : GuessP (scG g)
structure IsSplL (g o : LGu) (M : List (List Rat)) : Prop where
  l : M.length = g.length
  rl : ∀ r ∈ M, r.length = o.length
  sz : ∀ r ∈ M, ∀ x ∈ r, Sz 1550 x
structure TwoP (g o : LGu) : Prop where
  g1 : GOk g
  o1 : GOk o
  gl : g.length ≤ 4
  ol : o.length ≤ 4
  oi : o.Pairwise fun p q => p.2 < q.2
  gn : ∀ p ∈ g, p.1 ≠ 0
  due : (hgO (scG g) (scG o)).isNone = !laH g o
  sp : hgO (scG g) (scG o) = none → SplP (scG o) (scG g) ((scG o).map fun p => p.1) ∧ IsSplL g o (splL (scG o) (scG g) ((scG o).map fun p => p.1)) ∧ ∀ r, (splL (scG o) (scG g) ((scG o).map fun p => p.1))[0]? = some r → ∀ x ∈ r, Sz 500 x
structure MathP : Prop where
  md : ∀ m k g, m = 3 ∨ m = 4 → k ≤ 2 → Mk m k g → g.length ≤ 4 ∧ ∀ p ∈ g, Sz 100 p.1 ∧ p.2 < 2 ^ 10
  two : ∀ one other, Mk 3 2 one → Sp1 4 one other ∨ Mk 4 2 other → TwoP one other ∧ TwoP other one ∧ (∀ p ∈ other, p.2 < 2 ^ 10)
theorem wn_nm {C : Addr} {n : Nat} : ∀ v F, IsWn C n v F → IsNm C (Rat.divInt (n : Int) 12) v F := fun v F h => .inl h
theorem hp_pn {C : Addr} {p : Rat × Nat} : ∀ v F, IsHp C p v F → IsPn C (p.1, Rat.divInt (p.2 : Int) 12) v F := isTp_imp (.cons (fun v F h => .inl h) (.cons wn_nm .nil))
theorem hg_sg {C : Addr} {g : LGu} : ∀ v F, IsHg C g v F → IsSG C (scG g) v F := fun v F h => .inl (lstv_to (fun vs F q => lsv_map q fun x v F r => hp_pn v F r) v F h)
section
variable {P : Program} {w : World} {K : PySem.W.Frag} {mg : Str → Option Value} {base : Heap} {C : Addr}
abbrev sp__law_guess (C : Addr) : Sp := PrP (ι := Nat) (fun m => [IsU m]) (fun m => m = 3 ∨ m = 4) (fun m => Som (Mk m 2) (IsLg C))
abbrev Kn__law_guess (P : Program) (w : World) (K : PySem.W.Frag) (mg : Str → Option Value) (base : Heap) (C : Addr) : Prop := Kn P w K mg base "_law_guess" 15 ["pot", "most"] (sp__law_guess C)
theorem ok__law_guess (Z : Glo K mg C) (MM : MathP) (mk : Mkr P w K mg base C 2) (k__law_draw : Kn__law_draw P w K mg base C) (k__law_spread_out : Kn__law_spread_out P w K mg base C) {f : Addr} {fd : FuncData} (Fd : FnP K "_law_guess" st__law_guess f fd) : FnOk P w K mg base CX0 15 f fd ["pot", "most"] (sp__law_guess C) := by
  refine fn_prP Fd sc__law_guess (fun u => by first | rfl | (cases u <;> rfl)) (by decide) (fun X u E hX hp => ?_)
  obtain ⟨cdv, A, outer, s, H, E', rfl, hr⟩ := hX
  refine PSs.nox ?_
  have nd := (sc__law_guess).nd
  replace hr : Room 14 (cxOf CX0 P w K mg base N__law_guess "_law_guess" (defScope st__law_guess) f cdv A outer s H E').nox.A := hr
  rename Nat => m
  refine js_seq (js_set (i := 2) (R := Som (Mk m 0) (IsLg C)) (ps_set (i := 2) nd rfl (.inl rfl) (je_conv (je_m (jm_ls (R := IsLp C) gOne (jm_lst (pe_lst (ja_cons (je_tup (pe_tup (ja_cons (jmk1 mk (hr.mono (by decide)) (ja_cons jI ja_nil)) (ja_cons jI ja_nil)))) ja_nil))))) (fun v F h => ⟨gOne, rfl, h⟩)))) ?_
  refine js_cons (N1 := fun G => ∃ n s3, n < 3 ∧ G = [.pot, .fz (IsU m), .fz (Som (Mk m n) (IsLg C)), s3]) (js_forS PassesOwn.never rfl (ji_rangeS (P := fun n => n < 3) (fun n hn => by omega) (pi_range1 rfl Z.range (ja_cons (jcP k__law_draw (hr.mono (by decide)) ⟨0, rfl⟩ 3 (ja_pot (pv 0) rfl (ja_cons jI ja_nil)) ⟨by decide, by decide⟩) ja_nil))) (fun x => jg1 3 nd) (fun n i G => i ≤ n ∧ ∃ s3, G = [.pot, .fz (IsU m), .fz (Som (Mk m i) (IsLg C)), s3]) (fun n hn => ⟨Nat.zero_le _, _, rfl⟩) ?_ ?_) ?_
  · rintro n i x G1 hn hx ⟨hi, s3, rfl⟩
    have hlt : i < n := by have := (List.getElem?_eq_some_iff.mp hx).1; rwa [List.length_range] at this
    refine js_open (i := 2) rfl (fun x v F F' h e => mo_L v F F' h e) fun g hg => ?_
    refine js_one (js_N (js_set (i := 2) (R := Som (Mk m (i + 1)) (IsLg C)) (ps_set (i := 2) nd rfl (.inl rfl) (je_conv (R := Som (Sp1 m g) (IsLg C)) (jcP k__law_spread_out (hr.mono (by decide)) ⟨0, rfl⟩ (g, m) (ja_pot (pv 0) rfl (ja_cons (jv 2 (R := IsLg C g)) (ja_cons (jv 1 (R := IsU m)) ja_nil))) (MM.md m i g hp (by omega) hg)) (fun v F ⟨g', h', q⟩ => ⟨g', ⟨g, hg, h'⟩, q⟩)))) ?_)
    rintro G' rfl
    exact ⟨by omega, _, rfl⟩
  · rintro n G1 hn ⟨hi, s3, rfl⟩
    rw [List.length_range]
    exact ⟨n, s3, hn, rfl⟩
  · rintro _ ⟨n, s3, hn, rfl⟩
    exact js_one (js_ret (je_conv (jv 2 (R := Som (Mk m n) (IsLg C))) (fun v F ⟨g, h, q⟩ => ⟨g, h.up (by omega), q⟩)))
end
end Gw
set_option maxHeartbeats 1000000
/-! Minus of an own object; lists with an open part; how long a text's repr is. -/
namespace Gw
open PySem PySem.Spec PyProof.Rows L2
def NegK (P : Program) (w : World) (K : PySem.W.Frag) (mg : Str → Option Value) (base : Heap) (C : Addr) (k : Nat) (pre : Rat → Prop) : Prop :=
  ∃ (f : Addr) (fd : FuncData), PySem.W.findIn K (.ref C) "__neg__" = some (some (.ref f)) ∧ PySem.W.isFn K (.ref f) = true ∧ Binds K fd ["self"] [] ∧ FnOk P w K mg base CX0 k f fd ["self"] (Pr (fun q : Rat => [IsQ C q]) pre fun q => IsQ C (-q))
section
variable {X : Cx} {C : Addr} {k : Nat} {pre : Rat → Prop} {E : En} {G : List Sl} {e : Expr} {pos : Pos} {q : Rat}
def rNegQ (C : Addr) (pre : Rat → Prop) : V → Hp → VK → Prop := fun x H Q => ∃ (F : Hp) (q : Rat), pre q ∧ Ok none F H ∧ Up (IsQ C q) x F ∧ ∀ v' F' H', Gr none F H F' H' → Up (IsQ C (-q)) v' F' → Q v' H'
theorem un_negQ (T : NegK X.prog X.w X.K X.mg X.base C k pre) (hr : Room k X.A) : UnR X (unaryOp .USub) (rNegQ C pre) := by
  intro pins s σ H x v Q I rv h
  obtain ⟨f, fd, hs, hf, hb, ok⟩ := T
  obtain ⟨F, q, hp, okk, u, kq⟩ := h
  obtain ⟨a, dx, rfl, ha⟩ := u.here
  cases (show v = Value.ref a from rv)
  obtain ⟨_, _, J⟩ := ins_inst I (okk.s _ _ ha)
  obtain ⟨m, hF⟩ := I.fr
  refine PySem.W.ksp_neg hF I.ok.mod.kin J hs hf ?_
  exact run_fn (us := [.ref a]) (vs := [.ref a]) (ds := []) (dvs := []) ok hr hb .nil (pass00 (E' := E0)) I (.cons rfl .nil) ⟨F, q, okk, .cons u .nil, hp, kq⟩
theorem je_negQ (T : NegK X.prog X.w X.K X.mg X.base C k pre) (hr : Room k X.A) (ha : PE X e (tE E G (IsQ C q))) (hp : pre q) : PE X (.UnaryOp .USub e pos) (tE E G (IsQ C (-q))) := je_un (pe_un (un_negQ T hr) ha) fun x F H Q ok u k => ⟨F, q, hp, ok.none, u, fun v' F' H' g u' => k v' F' H' (g.lift ok) u'⟩
theorem rc_strQ {pp : Option Addr} {qt : Rat → Str} (hp : pre q) : RC pp (rStrQ C pre qt) [IsQ C q] (IsS (qt q)) := fun vs F H Q ok a k => by
  cases a with
  | cons u t =>
    cases t
    exact ⟨F, q, _, rfl, hp, ok.none, u, fun v' F' H' g e => k v' F' H' (g.lift ok) (by rw [e]; exact fun _ _ => rfl)⟩
end
theorem rcm_listD {α : Type} {Rx : α → V → Hp → Prop} {xs : List α} {K : PySem.W.Frag} {pp : Option Addr} : RCM pp (fun us H Q => ∃ p ys, us = [.ref p] ∧ (SqL K H p ys ∨ SqT K H p ys) ∧ ∀ l, H l = none → Q (.ref l) (upd H l (.lst ys))) [IsL Rx xs] (LsOf Rx xs) := fun vs F H Q ok a k => by
  cases a with
  | cons r t =>
    cases t
    obtain ⟨p, ys, rfl, h, u⟩ := r.here
    refine ⟨p, ys, rfl, .inl (SqL.of (ok.s _ _ h)), fun l hl => k l ys F _ (Gr.raw ok hl) hl ?_ upd_same u⟩
    cases e : F l with
    | none => rfl
    | some o => rw [ok.s _ _ e] at hl; cases hl
/-! ### an open part -/
theorem ropM_somR {α : Type} {pp : Option Addr} {r : R2} {P : α → Prop} {Ra : V → Hp → Prop} {Rb : α → V → Hp → Prop} {Rm : α → List V → Hp → Prop} (hm : ∀ x, Mo (Rb x)) (h : ∀ x, P x → ROpM pp r Ra (Rb x) (Rm x)) : ROpM pp r Ra (Som P Rb) (SomM P Rm) := fun y z F H Q ok u1 u2 k => by
  obtain ⟨x, px, rx⟩ := u2.here
  exact h x px y z F H Q ok u1 ((hm x).up rx) fun p ws F' H' g n1 n2 n3 u => k p ws F' H' g n1 n2 n3 (u.imp fun F l => ⟨x, px, l⟩)
theorem ropM_somL {α : Type} {pp : Option Addr} {r : R2} {P : α → Prop} {Ra : V → Hp → Prop} {Rb : α → V → Hp → Prop} {Rm : α → List V → Hp → Prop} (hm : ∀ x, Mo (Rb x)) (h : ∀ x, P x → ROpM pp r (Rb x) Ra (Rm x)) : ROpM pp r (Som P Rb) Ra (SomM P Rm) := fun y z F H Q ok u1 u2 k => by
  obtain ⟨x, px, rx⟩ := u1.here
  exact h x px y z F H Q ok ((hm x).up rx) u2 fun p ws F' H' g n1 n2 n3 u => k p ws F' H' g n1 n2 n3 (u.imp fun F l => ⟨x, px, l⟩)
theorem lst_som {α : Type} {P : α → Prop} {R : α → List V → Hp → Prop} (hm : ∀ x vs F F', R x vs F → Ex F F' → R x vs F') : ∀ v F, LstOf (SomM P R) v F → Som P (fun x => LstOf (R x)) v F := fun v F ⟨a, vs, e, h, u⟩ => by
  obtain ⟨x, px, rx⟩ := u.here
  exact ⟨x, px, a, vs, e, h, fun F' e' => hm x vs F F' rx e'⟩
theorem args_som {α : Type} {P : α → Prop} {R : α → V → Hp → Prop} (hm : ∀ x, Mo (R x)) : ∀ vs F, Args [Som P R] vs F → SomM P (fun x => LsOf R [x]) vs F := fun vs F a => by
  cases a with
  | cons u t =>
    cases t
    obtain ⟨x, px, rx⟩ := u.here
    exact ⟨x, px, .cons ((hm x).up rx) .nil⟩
/-! ### letters -/
def Asc (s : Str) : Prop := ∀ c ∈ s.cps.toList, c < 16 ^ 8
theorem asc_of (t : String) : Asc (Str.ofString t) := fun c hc => by
  rw [Str.ofString_eq_toList] at hc
  obtain ⟨d, _, rfl⟩ := List.mem_map.mp (by simpa using hc)
  have := d.val.toNat_lt
  exact this
theorem asc_app {a b : Str} (h : Asc a) (k : Asc b) : Asc (a ++ b) := fun c hc => by
  have : c ∈ (a.cps ++ b.cps).toList := hc
  rw [Array.toList_append, List.mem_append] at this
  exact this.elim (h c) (k c)
theorem asc_fold : ∀ (ss : List Str) (a : Str), Asc a → (∀ s ∈ ss, Asc s) → Asc (ss.foldl (· ++ ·) a)
  | [], a, h, _ => h
  | s :: ss, a, h, k => by
    rw [List.foldl_cons]
    exact asc_fold ss _ (asc_app h (k s (by simp))) fun t ht => k t (by simp [ht])
theorem asc_cat {ss : List Str} (k : ∀ s ∈ ss, Asc s) : Asc (catS ss) := asc_fold ss _ (fun c hc => by simp [Str.empty] at hc) k
theorem asc_cut {z : Str} {lo hi : Option Int} (h : Asc z) : Asc (cutS z lo hi) := fun c hc => by
  unfold cutS at hc
  exact h c (List.mem_of_mem_drop (List.mem_of_mem_take (by simpa using hc)))
end Gw
set_option maxHeartbeats 4000000
/-! How long written lists and tuples are at most. -/
namespace Gw
open PySem PySem.Spec PyProof.Rows L2
theorem textFrom_ub : ∀ (ts : List Str) (k : Nat) (acc : Str), (textFrom k acc ts).length ≤ acc.length + piled ts
  | [], k, acc => by show acc.length ≤ _; omega
  | t :: ts, k, acc => by
    have h := textFrom_ub ts (k + 1) (acc ++ (if k > 0 then ", " else "" : String) ++ t)
    rw [piled_cons]
    show (textFrom (k + 1) (acc ++ (if k > 0 then ", " else "" : String) ++ t) ts).length ≤ _
    rw [strLen_append, strLen_append] at h
    have e : (Str.ofString (if k > 0 then ", " else "" : String)).length ≤ 2 := by split <;> decide
    omega
theorem listText_ub (ts : List Str) : (listText ts).length ≤ 2 + piled ts := by
  have h := textFrom_ub ts 0 "["
  show (textFrom 0 "[" ts ++ "]").length ≤ _
  rw [strLen_append]
  have e1 : ("[" : Str).length = 1 := rfl
  have e2 : ("]" : Str).length = 1 := rfl
  omega
theorem tupleText_ub {ts : List Str} (hne : ts ≠ []) : (tupleText ts).length ≤ 1 + piled ts := by
  have h := join_length_add ts hne
  unfold tupleText
  rw [strLen_append, strLen_append]
  have e1 : ("(" : Str).length = 1 := rfl
  have e2 : (Str.ofString (if ts.length == 1 then ",)" else ")" : String)).length ≤ 2 := by split <;> decide
  omega
theorem piled_ub {m : Nat} : ∀ {ts : List Str}, (∀ t ∈ ts, t.length ≤ m) → piled ts ≤ (m + 2) * ts.length
  | [], _ => by simp [piled]
  | t :: ts, h => by
    have i := piled_ub (m := m) (ts := ts) fun x hx => h x (List.mem_cons_of_mem _ hx)
    have j := h t (List.mem_cons_self ..)
    rw [piled_cons, List.length_cons, Nat.mul_add]
    omega
end Gw
set_option maxHeartbeats 1000000
namespace Gw
open PySem PySem.Spec PyProof.Rows L2
/-! ### values that may be judged and written -/
structure Eok (d : Dv) : Prop where
  z : Sz 2000 (nuV d)
  ok : DvOk Wd d
  dp : dvD d ≤ 1
  len : (dvT repS d).length ≤ 20000
structure Rok (d : Dv) : Prop where
  z : ∀ m, sqD d = some m → m.length ≤ 100 ∧ ∀ x ∈ m, Sz 2000 (nuV x)
  ok : DvOk Wd d
  dp : dvD d ≤ 2
  len : (dvT repS d).length ≤ 150000
structure Vok (d : Dv) : Prop where
  z : DvN d
  ok : DvOk Wd d
  dp : dvD d ≤ 3
  len : (dvT repS d).length ≤ 1200000
  nq : ∀ r, d ≠ .q r
theorem Vok.top {d : Dv} (h : Vok d) : DvTop Wd repS 3 d := ⟨h.ok, h.dp, by have := h.len; rw [show sizeLine = 2 ^ 24 from rfl]; omega, h.nq⟩
theorem dvDs_le {n : Nat} : ∀ {l : List Dv}, (∀ d ∈ l, dvD d ≤ n) → dvDs l ≤ n
  | [], _ => Nat.zero_le _
  | d :: l, h => by
    show max (dvD d) (dvDs l) ≤ n
    have h1 := h d (by simp)
    have h2 := dvDs_le (l := l) fun e he => h e (by simp [he])
    omega
theorem txt_l {n : Nat} {l : List Dv} (h : ∀ d ∈ l, (dvT repS d).length ≤ n) (hl : l.length ≤ 7) : (dvT repS (.lst l)).length ≤ 7 * n + 20 ∧ (dvT repS (.tup l)).length ≤ 7 * n + 20 := by
  have a := listText_ub (l.map (dvT repS))
  have b := tupleText_ub (ts := l.map (dvT repS))
  have c := piled_ub (m := n) (ts := l.map (dvT repS)) fun t ht => by
    obtain ⟨d, hd, rfl⟩ := List.mem_map.mp ht
    exact h d hd
  rw [List.length_map] at c
  have e : (n + 2) * l.length ≤ (n + 2) * 7 := Nat.mul_le_mul_left _ hl
  refine ⟨?_, ?_⟩
  · show (listText (dvTs repS l)).length ≤ _
    rw [dvTs_map]
    omega
  · show (tupleText (dvTs repS l)).length ≤ _
    rw [dvTs_map]
    by_cases h0 : l = []
    · subst h0
      show (tupleText []).length ≤ _
      have : (tupleText []).length = 2 := rfl
      omega
    · have := b (by simpa using h0)
      omega
theorem Rok.of {l : List Dv} (h : ∀ d ∈ l, Eok d) (hl : l.length ≤ 7) : Rok (.lst l) ∧ Rok (.tup l) := by
  have t := txt_l (fun d hd => (h d hd).len) hl
  have o : DvOks Wd l := dvOks_mem.mpr fun d hd => (h d hd).ok
  have p := dvDs_le fun d hd => (h d hd).dp
  exact ⟨⟨fun m hm => by cases hm; exact ⟨by omega, fun x hx => (h x hx).z⟩, ⟨hl, o⟩, by show dvDs l + 1 ≤ 2; omega, by omega⟩, ⟨fun m hm => by cases hm; exact ⟨by omega, fun x hx => (h x hx).z⟩, ⟨hl, o⟩, by show dvDs l + 1 ≤ 2; omega, by omega⟩⟩
theorem Vok.of {l : List Dv} (h : ∀ d ∈ l, Rok d) (hl : l.length ≤ 7) : Vok (.lst l) ∧ Vok (.tup l) := by
  have t := txt_l (fun d hd => (h d hd).len) hl
  have o : DvOks Wd l := dvOks_mem.mpr fun d hd => (h d hd).ok
  have p := dvDs_le fun d hd => (h d hd).dp
  exact ⟨⟨fun m hm => by cases hm; exact ⟨by omega, fun x hx => (h x hx).z⟩, ⟨hl, o⟩, by show dvDs l + 1 ≤ 3; omega, by omega, fun r e => by cases e⟩, ⟨fun m hm => by cases hm; exact ⟨by omega, fun x hx => (h x hx).z⟩, ⟨hl, o⟩, by show dvDs l + 1 ≤ 3; omega, by omega, fun r e => by cases e⟩⟩
theorem Eok.q {x : Rat} (h : Sz 2000 x) : Eok (.q x) := ⟨h, h.mono (by decide), by show 0 ≤ 1; omega, by have := repS_len (q := x) (h.mono (by decide)); show (repS x).length ≤ _; omega⟩
theorem Eok.i {i : Int} (h : i.natAbs < 10) : Eok (.int i) := by
  have hz : Sz 2000 ((i : Int) : Rat) := Sz.int (by decide) (Nat.lt_of_lt_of_le h (by decide +kernel))
  refine ⟨hz, log2_lt (n := 1920) (by decide) (Nat.lt_of_lt_of_le h (by decide +kernel)), by show 0 ≤ 1; omega, ?_⟩
  have e := int_text_length_le10 (k := 1) (a := i) (by decide) (by omega)
  show (Str.ofString (toString i)).length ≤ _
  rw [PySem.ofString_length]
  omega
theorem Eok.b (b : Bool) : Eok (.bl b) := ⟨sz0.mono (by decide), trivial, by show 0 ≤ 1; omega, by cases b <;> decide +kernel⟩
theorem Eok.non : Eok .non := ⟨sz0.mono (by decide), trivial, by decide, by decide +kernel⟩
theorem asc_dig (i : Int) : Asc (digS i) := by
  have h : ∀ (n : Nat) (m : Int) (t : Str), Asc t → Asc (digW n m t).2 := fun n => by
    induction n with
    | zero => intro m t h; exact h
    | succ n ih =>
      intro m t h
      unfold digW
      split
      · refine ih _ _ (asc_cat fun s hs => ?_)
        simp only [List.mem_cons, List.not_mem_nil, or_false] at hs
        rcases hs with rfl | rfl
        · exact asc_cut (asc_of _)
        · exact h
      · exact h
  refine asc_cat fun s hs => ?_
  simp only [digL, List.mem_cons, List.not_mem_nil, or_false] at hs
  rcases hs with rfl | rfl | rfl
  · split <;> exact asc_of _
  · exact asc_of _
  · exact h _ _ _ (asc_of _)
theorem asc_strS (q : Rat) : Asc (strS q) := by
  unfold strS
  split
  · exact asc_dig _
  · refine asc_cat fun s hs => ?_
    simp only [List.mem_cons, List.not_mem_nil, or_false] at hs
    rcases hs with rfl | rfl | rfl
    · exact asc_dig _
    · exact asc_of _
    · exact asc_dig _
theorem Eok.s {q : Rat} (h : Wd q) : Eok (.str (strS q)) := by
  have a := PySem.StrLaws.reprText_len (strS q) (asc_strS q)
  have b := strS_len h
  have l : (reprText (strS q)).length ≤ 19002 := by omega
  exact ⟨sz0.mono (by decide), by show (reprText _).length ≤ 20000; omega, by show 0 ≤ 1; omega, by show (reprText _).length ≤ _; omega⟩
theorem Eok.one {x : Rat} (h : Sz 2000 x) : Eok (.lst [.q x]) := by
  have e := Eok.q h
  have t := txt_l (n := 1900) (l := [.q x]) (fun d hd => by rw [List.mem_singleton.mp hd]; exact repS_len (h.mono (by decide))) (by show 1 ≤ 7; omega)
  exact ⟨sz0.mono (by decide), ⟨by show 1 ≤ 7; omega, e.ok, trivial⟩, by show max 0 0 + 1 ≤ 1; omega, by omega⟩
/-- a row of Ratios -/
abbrev qs (r : List Rat) : Dv := .lst (r.map .q)
theorem ls_qs {C : Addr} {F : Hp} : ∀ {r : List Rat} {vs : List V}, LsOf (IsQ C) r vs F → LsOf (IsDv C) (r.map Dv.q) vs F
  | [], _, h => by cases h; exact .nil
  | _ :: _, _, h => by
    cases h with
    | cons u t => exact .cons (u.imp fun F h => h) (ls_qs t)
theorem l_qs {C : Addr} {r : List Rat} : ∀ v F, IsL (IsQ C) r v F → IsDv C (qs r) v F := fun v F h => l_dv v F (lstv_to (fun vs F q => ls_qs q) v F h)
theorem Rok.qs {r : List Rat} (h : ∀ x ∈ r, Sz 2000 x) (hl : r.length ≤ 7) : Rok (qs r) := (Rok.of (fun d hd => by obtain ⟨x, hx, rfl⟩ := List.mem_map.mp hd; exact Eok.q (h x hx)) (by rw [List.length_map]; exact hl)).1
theorem ls_qss {C : Addr} {F : Hp} : ∀ {M : List (List Rat)} {vs : List V}, LsOf (IsL (IsQ C)) M vs F → LsOf (IsDv C) (M.map Gw.qs) vs F
  | [], _, h => by cases h; exact .nil
  | _ :: _, _, h => by
    cases h with
    | cons u t => exact .cons (u.imp fun F h => l_qs _ F h) (ls_qss t)
abbrev qss (M : List (List Rat)) : Dv := .lst (M.map Gw.qs)
theorem l_qss {C : Addr} {M : List (List Rat)} : ∀ v F, IsL (IsL (IsQ C)) M v F → IsDv C (qss M) v F := fun v F h => l_dv v F (lstv_to (fun vs F q => ls_qss q) v F h)
structure Mz (n : Nat) (M : List (List Rat)) : Prop where
  ne : M ≠ []
  l : M.length ≤ 4
  r : ∀ r ∈ M, r ≠ [] ∧ r.length ≤ 4 ∧ ∀ x ∈ r, Sz n x
theorem Mz.vok {n : Nat} {M : List (List Rat)} (h : Mz n M) (hn : n ≤ 2000) : Vok (qss M) := (Vok.of (fun d hd => by
  obtain ⟨r, hr, rfl⟩ := List.mem_map.mp hd
  obtain ⟨_, a, b⟩ := h.r r hr
  exact Rok.qs (fun x hx => (b x hx).mono hn) (by omega)) (by rw [List.length_map]; have := h.l; omega)).1
theorem sz_12 {n : Nat} {x : Rat} (h : Sz n x) : Sz (n + 5) (x - Rat.divInt 1 12) ∧ Sz (n + 5) (x + Rat.divInt 1 12) ∧ Sz (n + 4) (x + Rat.divInt 1 6) ∧ Sz (n + 3) (x + ((1 : Int) : Rat)) := by
  have a : Sz 4 (Rat.divInt 1 12) := ⟨by decide +kernel, by decide +kernel⟩
  have b : Sz 3 (Rat.divInt 1 6) := ⟨by decide +kernel, by decide +kernel⟩
  have c : Sz 1 ((1 : Int) : Rat) := ⟨by decide +kernel, by decide +kernel⟩
  exact ⟨(h.sub a).mono (by omega), (h.add a).mono (by omega), (h.add b).mono (by omega), (h.add c).mono (by omega)⟩
section
variable {P : Program} {w : World} {K : PySem.W.Frag} {mg : Str → Option Value} {base : Heap} {C : Addr}
abbrev sp__law_even (C : Addr) : Sp := Pr (ι := LGu × LGu) (fun w => [IsLg C w.1, IsLg C w.2]) (fun w => w.1.length ≤ 100 ∧ w.2.length ≤ 100) (fun w => IsL (IsL (IsQ C)) (w.1.map fun _ => w.2.map fun p => p.1))
abbrev Kn__law_even (P : Program) (w : World) (K : PySem.W.Frag) (mg : Str → Option Value) (base : Heap) (C : Addr) : Prop := Kn P w K mg base "_law_even" 2 ["guess", "other"] (sp__law_even C)
theorem ok__law_even (Z : Glo K mg C)  {f : Addr} {fd : FuncData} (Fd : FnP K "_law_even" st__law_even f fd) : FnOk P w K mg base CX0 2 f fd ["guess", "other"] (sp__law_even C) := by
  refine fn_pr Fd sc__law_even (fun u => by first | rfl | (cases u <;> rfl)) (fun _ => False) (fun _ _ h => h.elim) (fun X u E hX hp hE => ?_)
  obtain ⟨cdv, A, outer, s, H, E', rfl, hr⟩ := hX
  refine PSs.nox ?_
  have nd := (sc__law_even).nd
  replace hr : Room 1 (cxOf CX0 P w K mg base N__law_even "_law_even" (defScope st__law_even) f cdv A outer s H E').nox.A := hr
  obtain ⟨g, o⟩ := u
  obtain ⟨h1, h2⟩ : g.length ≤ 100 ∧ o.length ≤ 100 := hp
  exact js_one (js_ret (je_m (jlc (Ry := IsL (IsQ C)) (fun _ : Rat × Nat => o.map fun p => p.1) [("part", 4)] nd (ji_list (Rx := IsLp C) (xs := g) (pi_list (jv 0))) (fun s H C' cl fp x => jg1 4 nd) (fun s H C' cl fp x hx => je_m (jlc (Ry := IsQ C) (fun p : Rat × Nat => p.1) [("far", 2), ("more", 3)] nd (ji_list (Rx := IsLp C) (xs := o) (pi_list (jv 1))) (fun s H C' cl fp x => jg2 2 3 nd) (fun s H C' cl fp x hx => jv 2) (line_of (m := 1000) (by omega)))) (line_of (m := 1000) (by omega)))))
end
end Gw
set_option maxHeartbeats 1000000
namespace Gw
open PySem PySem.Spec PyProof.Rows L2
/-! ### values bent -/
theorem je_suc {X : Cx} {E : En} {G : List Sl} {e : Expr} {a : Nat} (p : PE X e (tE E G (IsI ((a : Int) + 1)))) : PE X e (tE E G (IsI ((a + 1 : Nat) : Int))) := p
theorem szc1 : Sz 1 ((1 : Int) : Rat) := ⟨by decide +kernel, by decide +kernel⟩
theorem szc6 : Sz 3 (Rat.divInt 1 6) := ⟨by decide +kernel, by decide +kernel⟩
theorem szc12 : Sz 4 (Rat.divInt 1 12) := ⟨by decide +kernel, by decide +kernel⟩
theorem mod_u {n d : Nat} (hn : 0 < n) : ∀ v F, IsI ((d : Int) % (n : Int)) v F → Som (fun a : Nat => a < n) IsU v F := fun v F h => ⟨d % n, Nat.mod_lt _ hn, by
  show v = V.int ((d % n : Nat) : Int)
  rw [show v = V.int ((d : Int) % (n : Int)) from h, Int.natCast_emod]⟩
theorem mo_L1 {α : Type} {P : α → V → Hp → Prop} {f : Dv → List α} : ∀ x : Dv, Mo (IsL P (f x)) := fun x => mo_L
theorem one_som {C : Addr} {P : Dv → Prop} : ∀ v F, LstOf (Args [Som P (IsDv C)]) v F → Som P (fun x => IsL (IsDv C) [x]) v F := fun v F h => lst_som (R := fun x => LsOf (IsDv C) [x]) (fun x vs F F' l e => (LsOf.up l) F' e) v F (lstv_to (fun vs F q => args_som mo_dv vs F q) v F h)
theorem ls_som {C : Addr} {P : Dv → Prop} {f : Dv → List Dv} : ∀ v F, LstOf (SomM P fun x => LsOf (IsDv C) (f x)) v F → Som P (fun x => IsL (IsDv C) (f x)) v F := lst_som (fun x vs F F' l e => (LsOf.up l) F' e)
theorem rok_cat {a b : List Rat} {x : Dv} (h : ∀ y ∈ a, Sz 2000 y) (k : ∀ y ∈ b, Sz 2000 y) (hx : Eok x) (hl : a.length + b.length ≤ 6) : Rok (.lst (a.map Dv.q ++ [x] ++ b.map Dv.q)) := (Rok.of (fun d hd => by
  simp only [List.append_assoc, List.mem_append, List.mem_map, List.mem_singleton] at hd
  rcases hd with ⟨y, hy, rfl⟩ | rfl | ⟨y, hy, rfl⟩
  · exact Eok.q (h y hy)
  · exact hx
  · exact Eok.q (k y hy)) (by simp only [List.length_append, List.length_map, List.length_singleton]; omega)).1
theorem pickD {C : Addr} {x : Rat} (h : Sz 1900 x) : ∀ v F, PickK [IsQ C (x + ((1 : Int) : Rat)), IsQ C (-x), IsB true, IsN, IsS (strS x), LstOf (Args [IsQ C x]), IsQ C (x + Rat.divInt 1 6)] v F → Som Eok (IsDv C) v F := fun v F ⟨R, hR, r⟩ => by
  obtain ⟨_, _, h6, h1⟩ := sz_12 h
  simp only [List.mem_cons, List.not_mem_nil, or_false] at hR
  rcases hR with rfl | rfl | rfl | rfl | rfl | rfl | rfl
  · exact ⟨.q _, Eok.q (h1.mono (by decide)), r⟩
  · exact ⟨.q _, Eok.q (h.neg.mono (by decide)), r⟩
  · exact ⟨.bl true, Eok.b true, r⟩
  · exact ⟨.non, Eok.non, r⟩
  · exact ⟨.str _, Eok.s (h.mono (by decide)), r⟩
  · refine ⟨.lst [.q x], Eok.one (h.mono (by decide)), l_dv v F (lstv_to (fun vs F a => ?_) v F r)⟩
    cases a with
    | cons u t =>
      cases t
      exact .cons (u.imp fun F h => h) .nil
  · exact ⟨.q _, Eok.q (h6.mono (by decide)), r⟩
section
variable {P : Program} {w : World} {K : PySem.W.Frag} {mg : Str → Option Value} {base : Heap} {C : Addr}
abbrev sp__law_bent_row (C : Addr) : Sp := PrP (ι := List Rat) (fun r => [IsL (IsQ C) r]) (fun r => r ≠ [] ∧ r.length ≤ 4 ∧ ∀ x ∈ r, Sz 1900 x) (fun _ => Som Rok (IsDv C))
abbrev Kn__law_bent_row (P : Program) (w : World) (K : PySem.W.Frag) (mg : Str → Option Value) (base : Heap) (C : Addr) : Prop := Kn P w K mg base "_law_bent_row" 8 ["pot", "row"] (sp__law_bent_row C)
theorem ok__law_bent_row (Z : Glo K mg C) (mk : Mkr P w K mg base C 2) (oadd : Opr P w K mg base C .Add 6 (fun w => Fits w.1 w.2) (· + ·)) (osub : Opr P w K mg base C .Sub 6 (fun w => Fits w.1 w.2) (· - ·)) (oneg : NegK P w K mg base C 4 fun q : Rat => q.den<2^9000) (ostr : StrK P w K mg base C 2 Wd strS) (k__law_draw : Kn__law_draw P w K mg base C) (k__law_pick : Kn__law_pick P w K mg base C) {f : Addr} {fd : FuncData} (Fd : FnP K "_law_bent_row" st__law_bent_row f fd) : FnOk P w K mg base CX0 8 f fd ["pot", "row"] (sp__law_bent_row C) := by
  refine fn_prP Fd sc__law_bent_row (fun u => by first | rfl | (cases u <;> rfl)) (by decide) (fun X u E hX hp => ?_)
  obtain ⟨cdv, A, outer, s, H, E', rfl, hr⟩ := hX
  refine PSs.nox ?_
  have nd := (sc__law_bent_row).nd
  replace hr : Room 7 (cxOf CX0 P w K mg base N__law_bent_row "_law_bent_row" (defScope st__law_bent_row) f cdv A outer s H E').nox.A := hr
  rename List Rat => r
  obtain ⟨hne, hl, hz⟩ : r ≠ [] ∧ r.length ≤ 4 ∧ ∀ x ∈ r, Sz 1900 x := hp
  have h0 : 0 < r.length := List.length_pos_iff.mpr hne
  have hz2 : ∀ x ∈ r, Sz 2000 x := fun x hx => (hz x hx).mono (by decide)
  refine js_seq (js_parMF (i := 2) (j := 3) (Rm := LsOf (IsQ C) r) (Rb := Som (fun d : Nat => d < 5) IsU) (by decide) (ps_par (i := 2) (j := 3) rfl nd rfl rfl (by decide) rfl rfl (pa_cons (jm_cb (pe_callTy call_list_of rfl Z.list boot_list (ja_cons (jv 1 (R := IsL (IsQ C) r)) ja_nil)) rcm_listD) (pa_cons (jcP k__law_draw (hr.mono (by decide)) ⟨0, rfl⟩ 5 (ja_pot (pv 0) rfl (ja_cons jI ja_nil)) ⟨by decide, by decide⟩) pa_nil)) rfl)) ?_
  refine js_open (i := 3) rfl (fun x v F F' h e => h) fun w' hw => ?_
  refine js_cons (N1 := fun G => w' ≠ 0 ∧ G = [.pot, .fz (IsL (IsQ C) r), .mt (LsOf (IsQ C) r), .fz (IsU w'), .un, .un]) (js_if (b1 := decide (w' = 0)) (jt_eq (jt_cmp (pt_cmpR op_eq (jv 3 (R := IsU w')) jI (nomark _)) rop_eqI) (by rw [decide_eq_decide]; omega)) (fun hb => ?_) (fun hb => js_nil ⟨of_decide_eq_false hb, rfl⟩)) ?_
  · refine js_frz (i := 2) rfl ?_
    exact js_one (js_ret (je_conv (jbT call_tuple_of Z.tuple boot_tuple (ja_cons (jv 2 (R := IsL (IsQ C) r)) ja_nil) rc_tuple) (fun v F h => ⟨.tup (r.map .q), (Rok.of (fun d hd => by obtain ⟨x, hx, rfl⟩ := List.mem_map.mp hd; exact Eok.q (hz2 x hx)) (by rw [List.length_map]; omega)).2, t_dv v F (tupv_to (fun vs F q => ls_qs q) v F h)⟩)))
  rintro _ ⟨w0, rfl⟩
  refine js_cons (N1 := fun G => w' ≠ 1 ∧ G = [.pot, .fz (IsL (IsQ C) r), .mt (LsOf (IsQ C) r), .fz (IsU w'), .un, .un]) (js_if (b1 := decide (w' = 1)) (jt_eq (PW.pt (jw_or (b1 := decide (w' = 1)) (b2 := false) (jt_eq (jt_cmp (pt_cmpR op_eq (jv 3 (R := IsU w')) jI (nomark _)) rop_eqI) (by rw [decide_eq_decide]; omega)) (fun _ => jw_or1 (jt_view (i := 2) rfl (jt_cmp (pt_cmpR (op_eqNil hr.units0) (jv 2 (R := IsL (IsQ C) r)) (je_m (jm_ls (R := IsQ C) ([] : List Rat) (jm_lst (pe_lst ja_nil)))) (nomark _)) (rop_eqNe hne fun vs F h => by cases h; rfl)))))) (Bool.or_false _)) (fun hb => ?_) (fun hb => js_nil ⟨of_decide_eq_false hb, rfl⟩)) ?_
  · refine js_frz (i := 2) rfl ?_
    refine js_one (js_ret (je_conv (je_m (jm_op (pe_op op_cat (je_conv (jv 2 (R := IsL (IsQ C) r)) (R' := IsL (IsDv C) (r.map Dv.q)) (fun v F h => lstv_to (fun vs F q => ls_qs q) v F h)) (je_m (jm_ls (R := IsDv C) [.int 0] (jm_lst (pe_lst (ja_cons jI ja_nil)))))) (rop_cat (by rw [List.length_map]; show _ + 1 ≤ _; omega)))) (fun v F h => ⟨.lst (r.map Dv.q ++ [.int 0]), (Rok.of (fun d hd => ?_) (by rw [List.length_append, List.length_map]; show _ + 1 ≤ _; omega)).1, l_dv v F h⟩)))
    rcases List.mem_append.mp hd with hd | hd
    · obtain ⟨x, hx, rfl⟩ := List.mem_map.mp hd
      exact Eok.q (hz2 x hx)
    · rw [List.mem_singleton.mp hd]
      exact Eok.i (by decide)
  rintro _ ⟨w1, rfl⟩
  refine js_seq (js_set (i := 4) (R := Som (fun a : Nat => a < r.length) IsU) (ps_set (i := 4) nd rfl (.inl rfl) (je_op (pe_op op_mod (jcP k__law_draw (hr.mono (by decide)) ⟨0, rfl⟩ 12 (ja_pot (pv 0) rfl (ja_cons jI ja_nil)) ⟨by decide, by decide⟩) (je_view (i := 2) rfl (fun v F F' h => h) (jbB call_len Z.len boot_len (ja_cons (jv 2 (R := IsL (IsQ C) r)) ja_nil) rc_len))) (rop_somL (fun _ => mo_I) fun d _ => rop_to (rop_mod (by omega)) (mod_u h0))))) ?_
  refine js_open (i := 4) rfl (fun x v F F' h e => h) fun a ha => ?_
  have hxa : r[a]! ∈ r := by rw [getElem!_pos r a ha]; exact List.getElem_mem ha
  have hza := hz _ hxa
  have htk : ∀ y ∈ r.take a, Sz 2000 y := fun y hy => hz2 y (List.mem_of_mem_take hy)
  have hdr : ∀ y ∈ r.drop (a + 1), Sz 2000 y := fun y hy => hz2 y (List.mem_of_mem_drop hy)
  have hll : (r.take a).length + (r.drop (a + 1)).length ≤ 4 := by rw [List.length_take, List.length_drop]; omega
  refine js_cons (N1 := fun G => w' ≠ 2 ∧ G = [.pot, .fz (IsL (IsQ C) r), .mt (LsOf (IsQ C) r), .fz (IsU w'), .fz (IsU a), .un]) (js_if (b1 := decide (w' = 2)) (jt_eq (jt_cmp (pt_cmpR op_eq (jv 3 (R := IsU w')) jI (nomark _)) rop_eqI) (by rw [decide_eq_decide]; omega)) (fun hb => ?_) (fun hb => js_nil ⟨of_decide_eq_false hb, rfl⟩)) ?_
  · refine js_frz (i := 2) rfl ?_
    refine js_one (js_ret (je_conv (je_m (jm_op (pe_op op_cat (je_m (jm_slice (pe_slice sl_list (jv 2 (R := IsL (IsQ C) r)) jo_none (jo_some (jv 4 (R := IsU a)))) (cut_to _ a r rfl).symm)) (je_m (jm_slice (pe_slice sl_list (jv 2 (R := IsL (IsQ C) r)) (jo_some (je_suc (je_op (pe_op op_add (jv 4 (R := IsU a)) jI) rop_add))) jo_none) (cut_from _ (a + 1) r rfl).symm))) (rop_cat (by omega)))) (fun v F h => ⟨qs (r.take a ++ r.drop (a + 1)), Rok.qs (fun y hy => ?_) (by rw [List.length_append]; omega), l_qs v F h⟩)))
    exact (List.mem_append.mp hy).elim (htk y) (hdr y)
  rintro _ ⟨w2, rfl⟩
  refine js_cons (N1 := fun G => G = [.pot, .fz (IsL (IsQ C) r), .mt (LsOf (IsQ C) r), .fz (IsU w'), .fz (IsU a), .un]) (js_if (b1 := decide (w' = 3)) (jt_eq (jt_cmp (pt_cmpR op_eq (jv 3 (R := IsU w')) jI (nomark _)) rop_eqI) (by rw [decide_eq_decide]; omega)) (fun hb => ?_) (fun hb => js_nil rfl)) ?_
  · refine js_frz (i := 2) rfl ?_
    refine js_one (js_ret (je_conv (je_conv (je_m (jm_op (pe_op op_cat (je_conv (je_m (jm_op (pe_op op_cat (je_conv (je_m (jm_slice (pe_slice sl_list (jv 2 (R := IsL (IsQ C) r)) jo_none (jo_some (jv 4 (R := IsU a)))) (cut_to _ a r rfl).symm)) (R' := IsL (IsDv C) ((r.take a).map Dv.q)) (fun v F h => lstv_to (fun vs F q => ls_qs q) v F h)) (je_conv (je_m (jm_lst (pe_lst (ja_cons (je_conv (jcP k__law_pick (hr.mono (by decide)) ⟨0, rfl⟩ (true, [IsQ C (r[a]! + ((1 : Int) : Rat)), IsQ C (-r[a]!), IsB true, IsN, IsS (strS r[a]!), LstOf (Args [IsQ C r[a]!]), IsQ C (r[a]! + Rat.divInt 1 6)]) (ja_pot (pv 0) rfl (ja_cons (je_m (jm_lst (pe_lst (ja_cons (joQI oadd (hr.mono (by decide)) (je_op (pe_ix ix_list (jv 2 (R := IsL (IsQ C) r)) (jv 4 (R := IsU a)) (fun _ _ => rfl)) (rop_ixB ha)) jI (hza.fits szc1 (by decide))) (ja_cons (je_negQ oneg (hr.mono (by decide)) (je_op (pe_ix ix_list (jv 2 (R := IsL (IsQ C) r)) (jv 4 (R := IsU a)) (fun _ _ => rfl)) (rop_ixB ha)) (Nat.lt_of_lt_of_le hza.2 (Nat.pow_le_pow_right (by decide) (by decide)))) (ja_cons jBl (ja_cons jNon (ja_cons (jbT (call_strQ ostr (hr.mono (by decide))) Z.str boot_str (ja_cons (je_op (pe_ix ix_list (jv 2 (R := IsL (IsQ C) r)) (jv 4 (R := IsU a)) (fun _ _ => rfl)) (rop_ixB ha)) ja_nil) (rc_strQ (hza.mono (by decide)))) (ja_cons (je_m (jm_lst (pe_lst (ja_cons (je_op (pe_ix ix_list (jv 2 (R := IsL (IsQ C) r)) (jv 4 (R := IsU a)) (fun _ _ => rfl)) (rop_ixB ha)) ja_nil)))) (ja_cons (joQ oadd (hr.mono (by decide)) (je_op (pe_ix ix_list (jv 2 (R := IsL (IsQ C) r)) (jv 4 (R := IsU a)) (fun _ _ => rfl)) (rop_ixB ha)) (jmk2 mk (hr.mono (by decide)) (ja_cons jI (ja_cons jI ja_nil)) ⟨by decide, by decide⟩) (hza.fits szc6 (by decide))) ja_nil)))))))))) ja_nil)) ⟨by show 0 < 7; omega, by show 7 < 1000; omega, ?_⟩) (pickD hza)) ja_nil)))) one_som)) (ropM_somR (fun x => mo_L) fun x _ => rop_cat (by rw [List.length_map]; show _ + 1 ≤ _; omega)))) ls_som) (je_conv (je_m (jm_slice (pe_slice sl_list (jv 2 (R := IsL (IsQ C) r)) (jo_some (je_suc (je_op (pe_op op_add (jv 4 (R := IsU a)) jI) rop_add))) jo_none) (cut_from _ (a + 1) r rfl).symm)) (R' := IsL (IsDv C) ((r.drop (a + 1)).map Dv.q)) (fun v F h => lstv_to (fun vs F q => ls_qs q) v F h))) (ropM_somL (fun x => mo_L) fun x _ => rop_cat (by rw [List.length_append, List.length_map, List.length_map]; show _ + 1 + _ ≤ _; omega)))) ls_som) (fun v F ⟨x, hx, h⟩ => ⟨.lst ((r.take a).map Dv.q ++ [x] ++ (r.drop (a + 1)).map Dv.q), rok_cat htk hdr hx (by omega), l_dv v F h⟩)))
    intro R hR
    simp only [List.mem_cons, List.not_mem_nil, or_false] at hR
    rcases hR with rfl | rfl | rfl | rfl | rfl | rfl | rfl
    · exact mo_Q
    · exact mo_Q
    · exact fun _ _ _ h _ => h
    · exact fun _ _ _ h _ => h
    · exact fun _ _ _ h _ => h
    · exact fun v F F' h e => LstOf.up h F' e
    · exact mo_Q
  rintro _ rfl
  refine js_seq (js_set (i := 5) (R := Som (fun a : Nat => a < r.length) IsU) (ps_set (i := 5) nd rfl (.inl rfl) (je_op (pe_op op_mod (jcP k__law_draw (hr.mono (by decide)) ⟨0, rfl⟩ 12 (ja_pot (pv 0) rfl (ja_cons jI ja_nil)) ⟨by decide, by decide⟩) (je_view (i := 2) rfl (fun v F F' h => h) (jbB call_len Z.len boot_len (ja_cons (jv 2 (R := IsL (IsQ C) r)) ja_nil) rc_len))) (rop_somL (fun _ => mo_I) fun d _ => rop_to (rop_mod (by omega)) (mod_u h0))))) ?_
  refine js_open (i := 5) rfl (fun x v F F' h e => h) fun b hb => ?_
  obtain ⟨z1, _, _, _⟩ := sz_12 hza
  refine js_seq (js_setitem (i := 2) (k := (a : Int)) (j := a) (R := IsQ C (r[a]! - Rat.divInt 1 12)) (Rm' := LsOf (IsQ C) (r.set a (r[a]! - Rat.divInt 1 12))) (ti := fun _ _ _ => True) (ps_asg (je_viewQ (i := 2) rfl (joQ osub (hr.mono (by decide)) (je_op (pe_ix ix_list (jv 2 (R := IsL (IsQ C) r)) (jv 4 (R := IsU a)) (fun _ _ => rfl)) (rop_ixB ha)) (jmk2 mk (hr.mono (by decide)) (ja_cons jI (ja_cons jI ja_nil)) ⟨by decide, by decide⟩) (hza.fits szc12 (by decide)))) (pg_sub (pv 2) (jv 4 (R := IsU a)) set_list)) rfl (fun vs F l => gw_ixN (by rw [← l.len]; exact ha)) (fun vs v F l u => LsOf.up (paired_set l.here u a))) ?_
  obtain ⟨r1, hr1⟩ : ∃ r1, r1 = r.set a (r[a]! - Rat.divInt 1 12) := ⟨_, rfl⟩
  rw [← hr1]
  have l1 : r1.length = r.length := by rw [hr1, List.length_set]
  have s1 : ∀ x ∈ r1, Sz 1905 x := fun x hx => by
    rw [hr1] at hx
    rcases List.mem_or_eq_of_mem_set hx with h | h
    · exact (hz x h).mono (by decide)
    · rw [h]
      exact z1
  have hb1 : b < r1.length := by omega
  have hxb : r1[b]! ∈ r1 := by rw [getElem!_pos r1 b hb1]; exact List.getElem_mem hb1
  have hzb := s1 _ hxb
  obtain ⟨_, z2, _, _⟩ := sz_12 hzb
  refine js_seq (js_setitem (i := 2) (k := (b : Int)) (j := b) (R := IsQ C (r1[b]! + Rat.divInt 1 12)) (Rm' := LsOf (IsQ C) (r1.set b (r1[b]! + Rat.divInt 1 12))) (ti := fun _ _ _ => True) (ps_asg (je_viewQ (i := 2) rfl (joQ oadd (hr.mono (by decide)) (je_op (pe_ix ix_list (jv 2 (R := IsL (IsQ C) r1)) (jv 5 (R := IsU b)) (fun _ _ => rfl)) (rop_ixB hb1)) (jmk2 mk (hr.mono (by decide)) (ja_cons jI (ja_cons jI ja_nil)) ⟨by decide, by decide⟩) (hzb.fits szc12 (by decide)))) (pg_sub (pv 2) (jv 5 (R := IsU b)) set_list)) rfl (fun vs F l => gw_ixN (by rw [← l.len]; exact hb1)) (fun vs v F l u => LsOf.up (paired_set l.here u b))) ?_
  refine js_frz (i := 2) rfl ?_
  exact js_one (js_ret (je_conv (jv 2 (R := IsL (IsQ C) (r1.set b (r1[b]! + Rat.divInt 1 12)))) (fun v F h => ⟨qs _, Rok.qs (fun x hx => by
    rcases List.mem_or_eq_of_mem_set hx with h | h
    · exact (s1 x h).mono (by decide)
    · rw [h]
      exact z2.mono (by decide)) (by rw [List.length_set]; omega), l_qs v F h⟩)))
end
end Gw
set_option maxHeartbeats 1000000
namespace Gw
open PySem PySem.Spec PyProof.Rows L2
theorem ls_tss {C : Addr} {F : Hp} : ∀ {M : List (List Rat)} {vs : List V}, LsOf (IsTs (IsQ C)) M vs F → LsOf (IsDv C) (M.map fun r => Dv.tup (r.map Dv.q)) vs F
  | [], _, h => by cases h; exact .nil
  | _ :: _, _, h => by
    cases h with
    | cons u t => exact .cons (u.imp fun F h => t_dv _ F (tupv_to (fun vs F q => ls_qs q) _ F h)) (ls_tss t)
theorem cut_last {α : Type} (M : List α) : ((M.drop (HT.sIx M.length 0 (some (-1)))).take (HT.sIx M.length M.length none - HT.sIx M.length 0 (some (-1)))).length ≤ 1 := by
  have e1 : HT.sIx M.length M.length none = M.length := rfl
  have e2 : M.length - 1 ≤ HT.sIx M.length 0 (some (-1)) := by
    unfold HT.sIx
    simp only
    split <;> omega
  rw [List.length_take, List.length_drop]
  omega
theorem Mz.rok {n : Nat} {M : List (List Rat)} (h : Mz n M) (hn : n ≤ 2000) : ∀ r ∈ M, Rok (qs r) ∧ Rok (.tup (r.map Dv.q)) := fun r hr => by
  obtain ⟨_, a, b⟩ := h.r r hr
  exact ⟨Rok.qs (fun x hx => (b x hx).mono hn) (by omega), (Rok.of (fun d hd => by obtain ⟨x, hx, rfl⟩ := List.mem_map.mp hd; exact Eok.q ((b x hx).mono hn)) (by rw [List.length_map]; omega)).2⟩
theorem vok_sub {M L : List (List Rat)} {n : Nat} (h : Mz n M) (hn : n ≤ 2000) (k : ∀ r ∈ L, r ∈ M) (hl : L.length ≤ 7) : Vok (qss L) := (Vok.of (fun d hd => by
  obtain ⟨r, hr, rfl⟩ := List.mem_map.mp hd
  exact (h.rok hn r (k r hr)).1) (by rw [List.length_map]; exact hl)).1
theorem vok_cat {M : List (List Rat)} {n a : Nat} {d : Dv} (h : Mz n M) (hn : n ≤ 2000) (hd : Rok d) : Vok (.lst ((M.take a).map Gw.qs ++ [d] ++ (M.drop (a + 1)).map Gw.qs)) := (Vok.of (fun x hx => by
  simp only [List.append_assoc, List.mem_append, List.mem_map, List.mem_singleton] at hx
  rcases hx with ⟨y, hy, rfl⟩ | rfl | ⟨y, hy, rfl⟩
  · exact (h.rok hn y (List.mem_of_mem_take hy)).1
  · exact hd
  · exact (h.rok hn y (List.mem_of_mem_drop hy)).1) (by have := h.l; simp only [List.length_append, List.length_map, List.length_singleton, List.length_take, List.length_drop]; omega)).1
/-- a row turned -/
def outR (row : List Rat) (o : LGu) (m : Rat) : List Rat := [row[0]! + m * (((((o[2]!).2 : Int) - ((o[1]!).2 : Int) : Int)) : Rat), row[1]! - m * ((((((o[1]!).2 : Int) - ((o[0]!).2 : Int)) + (((o[2]!).2 : Int) - ((o[1]!).2 : Int)) : Int)) : Rat), row[2]! + m * (((((o[1]!).2 : Int) - ((o[0]!).2 : Int) : Int)) : Rat)] ++ row.drop 3
structure OutP (row : List Rat) (o : LGu) (m : Rat) (n k : Nat) : Prop where
  l3 : 3 ≤ row.length
  l4 : row.length ≤ 4
  o3 : 3 ≤ o.length
  oz : ∀ p ∈ o, p.2 < 2 ^ 20
  rz : ∀ x ∈ row, Sz n x
  mz : Sz k m
  nk : n + k + 30 ≤ 2000
namespace OutP
variable {row : List Rat} {o : LGu} {m : Rat} {n k : Nat} (h : OutP row o m n k)
include h
theorem o2 {j : Nat} (hj : j < 3) : (o[j]!).2 < 2 ^ 20 := by
  have : j < o.length := by have := h.o3; omega
  rw [getElem!_pos o j this]
  exact h.oz _ (List.getElem_mem this)
theorem r2 {j : Nat} (hj : j < 3) : Sz n row[j]! := by
  have : j < row.length := by have := h.l3; omega
  rw [getElem!_pos row j this]
  exact h.rz _ (List.getElem_mem this)
theorem iz {i : Int} (hi : i.natAbs < 2 ^ 22) : Sz 22 ((i : Int) : Rat) ∧ Sz (k + 22) (m * ((i : Int) : Rat)) := by
  have a : Sz 22 ((i : Int) : Rat) := Sz.int (by decide) hi
  exact ⟨a, h.mz.mul a⟩
theorem ib : (((o[2]!).2 : Int) - ((o[1]!).2 : Int)).natAbs < 2 ^ 22 ∧ ((((o[1]!).2 : Int) - ((o[0]!).2 : Int)) + (((o[2]!).2 : Int) - ((o[1]!).2 : Int))).natAbs < 2 ^ 22 ∧ (((o[1]!).2 : Int) - ((o[0]!).2 : Int)).natAbs < 2 ^ 22 := by
  have a := h.o2 (j := 0) (by decide)
  have b := h.o2 (j := 1) (by decide)
  have c := h.o2 (j := 2) (by decide)
  omega
theorem sz : (∀ x ∈ outR row o m, Sz 2000 x) ∧ (outR row o m).length ≤ 4 := by
  obtain ⟨i1, i2, i3⟩ := h.ib
  have nk := h.nk
  refine ⟨fun x hx => ?_, ?_⟩
  · unfold outR at hx
    simp only [List.cons_append, List.nil_append, List.mem_cons] at hx
    rcases hx with rfl | rfl | rfl | hx
    · exact ((h.r2 (j := 0) (by decide)).add (h.iz i1).2).mono (by omega)
    · exact ((h.r2 (j := 1) (by decide)).sub (h.iz i2).2).mono (by omega)
    · exact ((h.r2 (j := 2) (by decide)).add (h.iz i3).2).mono (by omega)
    · exact (h.rz x (List.mem_of_mem_drop hx)).mono (by omega)
  · unfold outR
    have := h.l4
    simp only [List.length_append, List.length_cons, List.length_nil, List.length_drop]
    omega
end OutP
section
variable {P : Program} {w : World} {K : PySem.W.Frag} {mg : Str → Option Value} {base : Heap} {C : Addr}
abbrev sp__law_bent (C : Addr) : Sp := PrP (ι := List (List Rat)) (fun M => [IsL (IsL (IsQ C)) M]) (fun M => Mz 1900 M) (fun _ => Som Vok (IsDv C))
abbrev Kn__law_bent (P : Program) (w : World) (K : PySem.W.Frag) (mg : Str → Option Value) (base : Heap) (C : Addr) : Prop := Kn P w K mg base "_law_bent" 9 ["pot", "value"] (sp__law_bent C)
theorem ok__law_bent (Z : Glo K mg C) (k__law_draw : Kn__law_draw P w K mg base C) (k__law_bent_row : Kn__law_bent_row P w K mg base C) {f : Addr} {fd : FuncData} (Fd : FnP K "_law_bent" st__law_bent f fd) : FnOk P w K mg base CX0 9 f fd ["pot", "value"] (sp__law_bent C) := by
  refine fn_prP Fd sc__law_bent (fun u => by first | rfl | (cases u <;> rfl)) (by decide) (fun X u E hX hp => ?_)
  obtain ⟨cdv, A, outer, s, H, E', rfl, hr⟩ := hX
  refine PSs.nox ?_
  have nd := (sc__law_bent).nd
  replace hr : Room 8 (cxOf CX0 P w K mg base N__law_bent "_law_bent" (defScope st__law_bent) f cdv A outer s H E').nox.A := hr
  rename List (List Rat) => M
  have hp : Mz 1900 M := hp
  have hl := hp.l
  have h0 : 0 < M.length := List.length_pos_iff.mpr hp.ne
  refine js_seq (js_parMF (i := 2) (j := 3) (Rm := LsOf (IsL (IsQ C)) (M.map fun r => r)) (Rb := Som (fun d : Nat => d < 6) IsU) (by decide) (ps_par (i := 2) (j := 3) rfl nd rfl rfl (by decide) rfl rfl (pa_cons (jlc (Ry := IsL (IsQ C)) (fun r : List Rat => r) [("row", 5)] nd (ji_list (Rx := IsL (IsQ C)) (xs := M) (pi_list (jv 1))) (fun s H C' cl fp x => jg1 5 nd) (fun s H C' cl fp x hx => je_m (jm_cb (pe_callTy call_list_of rfl Z.list boot_list (ja_cons (jv 5 (R := IsL (IsQ C) x)) ja_nil)) rcm_listD)) (line_of (m := 1000) (by omega))) (pa_cons (jcP k__law_draw (hr.mono (by decide)) ⟨0, rfl⟩ 6 (ja_pot (pv 0) rfl (ja_cons jI ja_nil)) ⟨by decide, by decide⟩) pa_nil)) rfl)) ?_
  rw [List.map_id']
  refine js_open (i := 3) rfl (fun x v F F' h e => h) fun w' hw => ?_
  refine js_cons (N1 := fun G => w' ≠ 0 ∧ G = [.pot, .fz (IsL (IsL (IsQ C)) M), .mt (LsOf (IsL (IsQ C)) M), .fz (IsU w'), .un, .un]) (js_if (b1 := decide (w' = 0)) (jt_eq (jt_cmp (pt_cmpR op_eq (jv 3 (R := IsU w')) jI (nomark _)) rop_eqI) (by rw [decide_eq_decide]; omega)) (fun hb => ?_) (fun hb => js_nil ⟨of_decide_eq_false hb, rfl⟩)) ?_
  · refine js_frz (i := 2) rfl ?_
    refine js_one (js_ret (je_conv (jbT call_tuple_of Z.tuple boot_tuple (ja_cons (je_m (jlc (Ry := IsTs (IsQ C)) (fun r : List Rat => r) [("row", 5)] nd (ji_list (Rx := IsL (IsQ C)) (xs := M) (pi_list (jv 2))) (fun s H C' cl fp x => jg1 5 nd) (fun s H C' cl fp x hx => jbT call_tuple_of Z.tuple boot_tuple (ja_cons (jv 5 (R := IsL (IsQ C) x)) ja_nil) rc_tuple) (line_of (m := 1000) (by omega)))) ja_nil) rc_tuple) (fun v F h => ⟨.tup (M.map fun r => Dv.tup (r.map Dv.q)), (Vok.of (fun d hd => ?_) (by rw [List.length_map]; omega)).2, t_dv v F (tupv_to (fun vs F q => ls_tss (by rw [List.map_id'] at q; exact q)) v F h)⟩)))
    obtain ⟨r, hr', rfl⟩ := List.mem_map.mp hd
    exact (hp.rok (by decide) r hr').2
  rintro _ ⟨w0, rfl⟩
  refine js_cons (N1 := fun G => w' ≠ 1 ∧ G = [.pot, .fz (IsL (IsL (IsQ C)) M), .mt (LsOf (IsL (IsQ C)) M), .fz (IsU w'), .un, .un]) (js_if (b1 := decide (w' = 1)) (jt_eq (jt_cmp (pt_cmpR op_eq (jv 3 (R := IsU w')) jI (nomark _)) rop_eqI) (by rw [decide_eq_decide]; omega)) (fun hb => ?_) (fun hb => js_nil ⟨of_decide_eq_false hb, rfl⟩)) ?_
  · refine js_frz (i := 2) rfl ?_
    have hc := cut_last M
    refine js_one (js_ret (je_conv (je_m (jm_op (pe_op op_cat (jv 2 (R := IsL (IsL (IsQ C)) M)) (je_m (jm_slice (pe_slice sl_list (jv 2 (R := IsL (IsL (IsQ C)) M)) (jo_some jM1) jo_none) rfl))) (rop_cat (by omega)))) (fun v F h => ⟨qss _, vok_sub hp (by decide) (fun r hr' => ?_) (by rw [List.length_append]; omega), l_qss v F h⟩)))
    exact (List.mem_append.mp hr').elim id fun h => List.mem_of_mem_drop (List.mem_of_mem_take h)
  rintro _ ⟨w1, rfl⟩
  refine js_cons (N1 := fun G => w' ≠ 2 ∧ G = [.pot, .fz (IsL (IsL (IsQ C)) M), .mt (LsOf (IsL (IsQ C)) M), .fz (IsU w'), .un, .un]) (js_if (b1 := decide (w' = 2)) (jt_eq (PW.pt (jw_or (b1 := decide (w' = 2)) (b2 := false) (jt_eq (jt_cmp (pt_cmpR op_eq (jv 3 (R := IsU w')) jI (nomark _)) rop_eqI) (by rw [decide_eq_decide]; omega)) (fun _ => jw_or1 (jt_view (i := 2) rfl (jt_cmp (pt_cmpR (op_eqNil hr.units0) (jv 2 (R := IsL (IsL (IsQ C)) M)) (je_m (jm_ls (R := IsQ C) ([] : List Rat) (jm_lst (pe_lst ja_nil)))) (nomark _)) (rop_eqNe hp.ne fun vs F h => by cases h; rfl)))))) (Bool.or_false _)) (fun hb => ?_) (fun hb => js_nil ⟨of_decide_eq_false hb, rfl⟩)) ?_
  · refine js_frz (i := 2) rfl ?_
    exact js_one (js_ret (je_conv (je_m (jm_sliceS (by decide) (pe_sliceS (jv 2 (R := IsL (IsL (IsQ C)) M)) jo_none jo_none (jo_some jM1)))) (fun v F h => ⟨qss _, vok_sub hp (by decide) (fun r hr' => pkL_mem r hr') (by have := pkL_len M none none (some (-1)); omega), l_qss v F h⟩)))
  rintro _ ⟨w2, rfl⟩
  refine js_seq (js_set (i := 4) (R := Som (fun a : Nat => a < M.length) IsU) (ps_set (i := 4) nd rfl (.inl rfl) (je_op (pe_op op_mod (jcP k__law_draw (hr.mono (by decide)) ⟨0, rfl⟩ 12 (ja_pot (pv 0) rfl (ja_cons jI ja_nil)) ⟨by decide, by decide⟩) (je_view (i := 2) rfl (fun v F F' h => h) (jbB call_len Z.len boot_len (ja_cons (jv 2 (R := IsL (IsL (IsQ C)) M)) ja_nil) rc_len))) (rop_somL (fun _ => mo_I) fun d _ => rop_to (rop_mod (by omega)) (mod_u h0))))) ?_
  refine js_open (i := 4) rfl (fun x v F F' h e => h) fun a ha => ?_
  have hll : (M.take a).length + (M.drop (a + 1)).length ≤ 4 := by rw [List.length_take, List.length_drop]; omega
  refine js_frz (i := 2) rfl ?_
  refine js_cons (N1 := fun G => G = [.pot, .fz (IsL (IsL (IsQ C)) M), .fz (IsL (IsL (IsQ C)) M), .fz (IsU w'), .fz (IsU a), .un]) (js_if (b1 := decide (w' = 3)) (jt_eq (jt_cmp (pt_cmpR op_eq (jv 3 (R := IsU w')) jI (nomark _)) rop_eqI) (by rw [decide_eq_decide]; omega)) (fun hb => ?_) (fun hb => js_nil rfl)) ?_
  · refine js_one (js_ret (je_conv (je_m (jm_op (pe_op op_cat (je_m (jm_slice (pe_slice sl_list (jv 2 (R := IsL (IsL (IsQ C)) M)) jo_none (jo_some (jv 4 (R := IsU a)))) (cut_to _ a M rfl).symm)) (je_m (jm_slice (pe_slice sl_list (jv 2 (R := IsL (IsL (IsQ C)) M)) (jo_some (je_suc (je_op (pe_op op_add (jv 4 (R := IsU a)) jI) rop_add))) jo_none) (cut_from _ (a + 1) M rfl).symm))) (rop_cat (by omega)))) (fun v F h => ⟨qss (M.take a ++ M.drop (a + 1)), vok_sub hp (by decide) (fun r hr' => ?_) (by rw [List.length_append]; omega), l_qss v F h⟩)))
    exact (List.mem_append.mp hr').elim List.mem_of_mem_take List.mem_of_mem_drop
  rintro _ rfl
  have hra : M[a]! ∈ M := by rw [getElem!_pos M a ha]; exact List.getElem_mem ha
  exact js_one (js_ret (je_conv (je_conv (je_m (jm_op (pe_op op_cat (je_conv (je_m (jm_op (pe_op op_cat (je_conv (je_m (jm_slice (pe_slice sl_list (jv 2 (R := IsL (IsL (IsQ C)) M)) jo_none (jo_some (jv 4 (R := IsU a)))) (cut_to _ a M rfl).symm)) (R' := IsL (IsDv C) ((M.take a).map Gw.qs)) (fun v F h => lstv_to (fun vs F q => ls_qss q) v F h)) (je_conv (je_m (jm_lst (pe_lst (ja_cons (jcP k__law_bent_row (hr.mono (by decide)) ⟨0, rfl⟩ M[a]! (ja_pot (pv 0) rfl (ja_cons (je_op (pe_ix ix_list (jv 2 (R := IsL (IsL (IsQ C)) M)) (jv 4 (R := IsU a)) (fun _ _ => rfl)) (rop_ixB ha)) ja_nil)) (hp.r _ hra)) ja_nil)))) one_som)) (ropM_somR (fun x => mo_L) fun x _ => rop_cat (by rw [List.length_map]; show _ + 1 ≤ _; omega)))) ls_som) (je_conv (je_m (jm_slice (pe_slice sl_list (jv 2 (R := IsL (IsL (IsQ C)) M)) (jo_some (je_suc (je_op (pe_op op_add (jv 4 (R := IsU a)) jI) rop_add))) jo_none) (cut_from _ (a + 1) M rfl).symm)) (R' := IsL (IsDv C) ((M.drop (a + 1)).map Gw.qs)) (fun v F h => lstv_to (fun vs F q => ls_qss q) v F h))) (ropM_somL (fun x => mo_L) fun x _ => rop_cat (by rw [List.length_append, List.length_map, List.length_map]; show _ + 1 + _ ≤ _; omega)))) ls_som) (fun v F ⟨x, hx, h⟩ => ⟨.lst ((M.take a).map Gw.qs ++ [x] ++ (M.drop (a + 1)).map Gw.qs), vok_cat hp (by decide) hx, l_dv v F h⟩)))
abbrev sp__law_out (C : Addr) : Sp := Pr (ι := List Rat × LGu × Rat × Nat × Nat) (fun w => [IsL (IsQ C) w.1, IsLg C w.2.1, IsQ C w.2.2.1]) (fun w => OutP w.1 w.2.1 w.2.2.1 w.2.2.2.1 w.2.2.2.2) (fun w => IsL (IsQ C) (outR w.1 w.2.1 w.2.2.1))
abbrev Kn__law_out (P : Program) (w : World) (K : PySem.W.Frag) (mg : Str → Option Value) (base : Heap) (C : Addr) : Prop := Kn P w K mg base "_law_out" 7 ["row", "other", "much"] (sp__law_out C)
theorem ok__law_out (Z : Glo K mg C) (oadd : Opr P w K mg base C .Add 6 (fun w => Fits w.1 w.2) (· + ·)) (osub : Opr P w K mg base C .Sub 6 (fun w => Fits w.1 w.2) (· - ·)) (omul : Opr P w K mg base C .Mult 6 (fun w => Fits w.1 w.2) (· * ·)) {f : Addr} {fd : FuncData} (Fd : FnP K "_law_out" st__law_out f fd) : FnOk P w K mg base CX0 7 f fd ["row", "other", "much"] (sp__law_out C) := by
  refine fn_pr Fd sc__law_out (fun u => by first | rfl | (cases u <;> rfl)) (fun _ => False) (fun _ _ h => h.elim) (fun X u E hX hp hE => ?_)
  obtain ⟨cdv, A, outer, s, H, E', rfl, hr⟩ := hX
  refine PSs.nox ?_
  have nd := (sc__law_out).nd
  replace hr : Room 6 (cxOf CX0 P w K mg base N__law_out "_law_out" (defScope st__law_out) f cdv A outer s H E').nox.A := hr
  obtain ⟨r, o, m, n, k⟩ := u
  have hp : OutP r o m n k := hp
  obtain ⟨i1, i2, i3⟩ := hp.ib
  have nk := hp.nk
  have l3 := hp.l3
  have l4 := hp.l4
  have o3 := hp.o3
  have z0 := hp.r2 (j := 0) (by decide)
  have z1 := hp.r2 (j := 1) (by decide)
  have z2 := hp.r2 (j := 2) (by decide)
  have y1 := hp.iz i1
  have y2 := hp.iz i2
  have y3 := hp.iz i3
  have mz := hp.mz
  refine js_seq (js_par (i := 3) (j := 4) (Ra := IsI (((o[1]!).2 : Int) - ((o[0]!).2 : Int))) (Rb := IsI (((o[2]!).2 : Int) - ((o[1]!).2 : Int))) (ps_par (i := 3) (j := 4) rfl nd rfl rfl (by decide) rfl rfl (pa_cons (je_op (pe_op op_sub (je_op (pe_ix ix_tup (je_op (pe_ix ix_list (jv 1 (R := IsLg C o)) jI (fun _ _ => rfl)) (rop_ixB (j := 1) (by omega))) jI (fun _ _ => rfl)) (rop_ixT (j := 1) rfl)) (je_op (pe_ix ix_tup (je_op (pe_ix ix_list (jv 1 (R := IsLg C o)) jI (fun _ _ => rfl)) (rop_ixB (j := 0) (by omega))) jI (fun _ _ => rfl)) (rop_ixT (j := 1) rfl))) rop_sub) (pa_cons (je_op (pe_op op_sub (je_op (pe_ix ix_tup (je_op (pe_ix ix_list (jv 1 (R := IsLg C o)) jI (fun _ _ => rfl)) (rop_ixB (j := 2) (by omega))) jI (fun _ _ => rfl)) (rop_ixT (j := 1) rfl)) (je_op (pe_ix ix_tup (je_op (pe_ix ix_list (jv 1 (R := IsLg C o)) jI (fun _ _ => rfl)) (rop_ixB (j := 1) (by omega))) jI (fun _ _ => rfl)) (rop_ixT (j := 1) rfl))) rop_sub) pa_nil)) rfl)) ?_
  exact js_one (js_ret (je_m (jm_op (pe_op op_cat (je_m (jm_ls (R := IsQ C) [r[0]! + m * (((((o[2]!).2 : Int) - ((o[1]!).2 : Int) : Int)) : Rat), r[1]! - m * ((((((o[1]!).2 : Int) - ((o[0]!).2 : Int)) + (((o[2]!).2 : Int) - ((o[1]!).2 : Int)) : Int)) : Rat), r[2]! + m * (((((o[1]!).2 : Int) - ((o[0]!).2 : Int) : Int)) : Rat)] (jm_lst (pe_lst (ja_cons (joQ oadd (hr.mono (by decide)) (je_op (pe_ix ix_list (jv 0 (R := IsL (IsQ C) r)) jI (fun _ _ => rfl)) (rop_ixB (j := 0) (by omega))) (joQI omul (hr.mono (by decide)) (jv 2 (R := IsQ C m)) (jv 4) (mz.fits y1.1 (by omega))) (z0.fits y1.2 (by omega))) (ja_cons (joQ osub (hr.mono (by decide)) (je_op (pe_ix ix_list (jv 0 (R := IsL (IsQ C) r)) jI (fun _ _ => rfl)) (rop_ixB (j := 1) (by omega))) (joQI omul (hr.mono (by decide)) (jv 2 (R := IsQ C m)) (je_op (pe_op op_add (jv 3) (jv 4)) rop_add) (mz.fits y2.1 (by omega))) (z1.fits y2.2 (by omega))) (ja_cons (joQ oadd (hr.mono (by decide)) (je_op (pe_ix ix_list (jv 0 (R := IsL (IsQ C) r)) jI (fun _ _ => rfl)) (rop_ixB (j := 2) (by omega))) (joQI omul (hr.mono (by decide)) (jv 2 (R := IsQ C m)) (jv 3) (mz.fits y3.1 (by omega))) (z2.fits y3.2 (by omega))) ja_nil))))))) (je_m (jm_slice (pe_slice sl_list (jv 0 (R := IsL (IsQ C) r)) (jo_some (jI (i := ((3 : Nat) : Int)))) jo_none) (cut_from _ 3 r rfl).symm))) (rop_cat (by show 3 + _ ≤ _; rw [List.length_drop]; omega)))))
end
end Gw
/-! Plain: sums over lists; common denominators, bounds. -/
namespace Gw
def S {α : Type} (l : List α) (f : α → Rat) : Rat := (l.map f).sum
section
variable {α β : Type} {l k : List α} {f g : α → Rat}
theorem S_nil : S ([] : List α) f = 0 := rfl
theorem S_cons {a : α} : S (a :: l) f = f a + S l f := by simp [S]
theorem S_app : S (l ++ k) f = S l f + S k f := by
  induction l with
  | nil => rw [List.nil_append, S_nil]; grind
  | cons a l ih => rw [List.cons_append, S_cons, S_cons, ih]; grind
theorem S_congr (h : ∀ a ∈ l, f a = g a) : S l f = S l g := by
  induction l with
  | nil => rfl
  | cons a l ih => rw [S_cons, S_cons, h a (by simp), ih fun b hb => h b (by simp [hb])]
theorem S_map {m : List β} {h : β → α} : S (m.map h) f = S m (fun b => f (h b)) := by
  induction m with
  | nil => rfl
  | cons a m ih => rw [List.map_cons, S_cons, S_cons, ih]
theorem S_add : S l (fun a => f a + g a) = S l f + S l g := by
  induction l with
  | nil => simp only [S_nil]; grind
  | cons a l ih => simp only [S_cons, ih]; grind
theorem S_sub : S l (fun a => f a - g a) = S l f - S l g := by
  induction l with
  | nil => simp only [S_nil]; grind
  | cons a l ih => simp only [S_cons, ih]; grind
theorem S_mul {c : Rat} : S l (fun a => c * f a) = c * S l f := by
  induction l with
  | nil => simp only [S_nil]; grind
  | cons a l ih => simp only [S_cons, ih]; grind
theorem S_mulr {c : Rat} : S l (fun a => f a * c) = S l f * c := by
  induction l with
  | nil => simp only [S_nil]; grind
  | cons a l ih => simp only [S_cons, ih]; grind
theorem S_zero : S l (fun _ => 0) = 0 := by
  induction l with
  | nil => rfl
  | cons a l ih => rw [S_cons, ih]; grind
theorem S_zero' (h : ∀ a ∈ l, f a = 0) : S l f = 0 := by rw [S_congr h, S_zero]
theorem S_perm (h : l.Perm k) : S l f = S k f := by
  induction h with
  | nil => rfl
  | cons x _ ih => rw [S_cons, S_cons, ih]
  | swap x y l => simp only [S_cons]; grind
  | trans _ _ a b => rw [a, b]
theorem S_swap {m : List β} {F : α → β → Rat} : S l (fun a => S m (fun b => F a b)) = S m (fun b => S l (fun a => F a b)) := by
  induction l with
  | nil => simp only [S_nil, S_zero]
  | cons a l ih => simp only [S_cons, ih, S_add]
theorem S_nonneg (h : ∀ a ∈ l, 0 ≤ f a) : 0 ≤ S l f := by
  induction l with
  | nil => rw [S_nil]; grind
  | cons a l ih =>
    rw [S_cons]
    have h1 := h a (by simp)
    have h2 := ih fun b hb => h b (by simp [hb])
    grind
theorem S_pos0 (h : ∀ a ∈ l, 0 ≤ f a) (e : S l f = 0) : ∀ a ∈ l, f a = 0 := by
  induction l with
  | nil => intro a ha; simp at ha
  | cons b l ih =>
    rw [S_cons] at e
    have h1 := h b (by simp)
    have h2 : 0 ≤ S l f := S_nonneg fun c hc => h c (by simp [hc])
    have e1 : f b = 0 := by grind
    have e2 : S l f = 0 := by grind
    intro a ha
    rcases List.mem_cons.mp ha with q | q
    · rw [q]; exact e1
    · exact ih (fun c hc => h c (by simp [hc])) e2 a q
theorem S_le {a : α} (h : ∀ a ∈ l, 0 ≤ f a) (ha : a ∈ l) : f a ≤ S l f := by
  induction l with
  | nil => simp at ha
  | cons b l ih =>
    rw [S_cons]
    have h1 := h b (by simp)
    have h2 : 0 ≤ S l f := S_nonneg fun c hc => h c (by simp [hc])
    rcases List.mem_cons.mp ha with q | q
    · rw [q]; grind
    · have := ih (fun c hc => h c (by simp [hc])) q
      grind
end
theorem S_one {n i : Nat} {c : Nat → Rat} (hi : i < n) (h : ∀ j, j < n → j ≠ i → c j = 0) : S (List.range n) c = c i := by
  induction n with
  | zero => omega
  | succ n ih =>
    rw [List.range_succ, S_app, S_cons, S_nil]
    by_cases e : i = n
    · subst e
      rw [S_zero' fun j hj => h j (by have := List.mem_range.mp hj; omega) (by have := List.mem_range.mp hj; omega)]
      grind
    · rw [ih (by omega) fun j hj hji => h j (by omega) hji, h n (by omega) (fun q => e q.symm)]
      grind
theorem foldl_addS (xs : List Rat) (a : Rat) : xs.foldl (· + ·) a = a + S xs (fun x => x) := by
  induction xs generalizing a with
  | nil => rw [List.foldl_nil, S_nil]; grind
  | cons x xs ih => rw [List.foldl_cons, ih, S_cons]; grind
theorem sumR_S (xs : List Rat) : sumR xs = S xs (fun x => x) := by
  unfold sumR
  rw [foldl_addS]
  grind
theorem S_range {α : Type} [Inhabited α] (xs : List α) (f : α → Rat) : S xs f = S (List.range xs.length) (fun i => f xs[i]!) := by
  have e : xs = (List.range xs.length).map fun i => xs[i]! := by
    apply List.ext_getElem
    · simp
    · intro i h1 h2
      simp [h1]
  conv => lhs; rw [e]
  rw [S_map]
/-- so many parts of one, times an INTEGER -/
def IsF (D : Nat) (x : Rat) : Prop := ∃ t : Int, x * ((D : Nat) : Rat) = ((t : Int) : Rat)
theorem isF_den {D : Nat} {x : Rat} (h : x.den ∣ D) : IsF D x := by
  obtain ⟨c, rfl⟩ := h
  refine ⟨x.num * c, ?_⟩
  have h1 : x * ((x.den : Nat) : Rat) = ((x.num : Int) : Rat) := by
    have h1 : x = ((x.num : Int) : Rat) / ((x.den : Nat) : Rat) := by
      conv => lhs; rw [← q_self x, Rat.divInt_eq_div]
      rfl
    have h2 : ((x.den : Nat) : Rat) ≠ 0 := by
      rw [Ne, Rat.natCast_eq_zero_iff]; exact x.den_nz
    have key : ∀ a b : Rat, b ≠ 0 → x = a / b → x * b = a := fun a b hb e => by rw [e, Rat.div_mul_cancel hb]
    exact key _ _ h2 h1
  rw [Rat.natCast_mul, ← Rat.mul_assoc, h1, Rat.intCast_mul]
  rfl
theorem IsF.den {D : Nat} {x : Rat} (h : IsF D x) (hD : 0 < D) : x.den ∣ D := by
  obtain ⟨t, ht⟩ := h
  have hz : ((D : Nat) : Rat) ≠ 0 := by rw [Ne, Rat.natCast_eq_zero_iff]; omega
  have e : x = Rat.divInt t (D : Int) := by
    rw [Rat.divInt_eq_div, ← ht]
    show x = x * ((D : Nat) : Rat) / ((D : Nat) : Rat)
    rw [Rat.div_def, Rat.mul_assoc, Rat.mul_inv_cancel _ hz, Rat.mul_one]
  rw [e, Rat.den_divInt, if_neg (by omega), Int.natAbs_natCast]
  refine Nat.div_dvd_of_dvd ?_
  have := Int.gcd_dvd_left (a := (D : Int)) (b := t)
  exact Int.natCast_dvd_natCast.mp this
theorem IsF.add {D : Nat} {x y : Rat} (h : IsF D x) (k : IsF D y) : IsF D (x + y) := by
  obtain ⟨t, ht⟩ := h
  obtain ⟨s, hs⟩ := k
  exact ⟨t + s, by rw [Rat.intCast_add, ← ht, ← hs]; grind⟩
theorem IsF.neg {D : Nat} {x : Rat} (h : IsF D x) : IsF D (-x) := by
  obtain ⟨t, ht⟩ := h
  exact ⟨-t, by rw [Rat.intCast_neg, ← ht]; grind⟩
theorem IsF.sub {D : Nat} {x y : Rat} (h : IsF D x) (k : IsF D y) : IsF D (x - y) := by
  rw [Rat.sub_eq_add_neg]; exact h.add k.neg
theorem IsF.mul {D E : Nat} {x y : Rat} (h : IsF D x) (k : IsF E y) : IsF (D * E) (x * y) := by
  obtain ⟨t, ht⟩ := h
  obtain ⟨s, hs⟩ := k
  exact ⟨t * s, by rw [Rat.intCast_mul, Rat.natCast_mul, ← ht, ← hs]; grind⟩
theorem IsF.up {D E : Nat} {x : Rat} (h : IsF D x) (k : D ∣ E) : IsF E x := by
  obtain ⟨t, ht⟩ := h
  obtain ⟨c, rfl⟩ := k
  refine ⟨t * c, ?_⟩
  rw [Rat.natCast_mul, ← Rat.mul_assoc, ht, Rat.intCast_mul]
  rfl
theorem isF_int (D : Nat) (i : Int) : IsF D (i : Rat) := ⟨i * D, by rw [Rat.intCast_mul]; rfl⟩
theorem isF_0 (D : Nat) : IsF D 0 := isF_int D 0
theorem isF_1 (D : Nat) : IsF D 1 := isF_int D 1
theorem IsF.S {α : Type} {D : Nat} {l : List α} {f : α → Rat} (h : ∀ a ∈ l, IsF D (f a)) : IsF D (S l f) := by
  induction l with
  | nil => exact isF_0 D
  | cons a l ih =>
    rw [S_cons]
    exact (h a (by simp)).add (ih fun b hb => h b (by simp [hb]))
/-- a number between -B and B -/
def Bt (B : Nat) (x : Rat) : Prop := -((B : Nat) : Rat) ≤ x ∧ x ≤ ((B : Nat) : Rat)
theorem Bt.num {B : Nat} {x : Rat} (h : Bt B x) : x.num.natAbs ≤ B * x.den := by
  obtain ⟨h1, h2⟩ := h
  rw [Rat.le_iff] at h1 h2
  simp only [Rat.neg_num, Rat.neg_den, Rat.num_natCast, Rat.den_natCast] at h1 h2
  have e : ((B * x.den : Nat) : Int) = (B : Int) * (x.den : Int) := Int.natCast_mul _ _
  have a1 : x.num ≤ (B : Int) * (x.den : Int) := by simpa using h2
  have a2 : -((B : Int) * (x.den : Int)) ≤ x.num := by
    have : -(B : Int) * (x.den : Int) ≤ x.num := by simpa using h1
    rwa [Int.neg_mul] at this
  omega
theorem sz_of {D B n : Nat} {x : Rat} (h : IsF D x) (hb : Bt B x) (hD : 0 < D) (h1 : D < 2 ^ n) (h2 : B * D < 2 ^ n) : Sz n x := by
  have hd := Nat.le_of_dvd hD (h.den hD)
  exact ⟨Nat.lt_of_le_of_lt (Nat.le_trans hb.num (Nat.mul_le_mul_left _ hd)) h2, Nat.lt_of_le_of_lt hd h1⟩
theorem Bt.of {B : Nat} {x : Rat} (h0 : 0 ≤ x) (h : x ≤ ((B : Nat) : Rat)) : Bt B x := by
  refine ⟨?_, h⟩
  have : (0 : Rat) ≤ ((B : Nat) : Rat) := Rat.natCast_nonneg
  grind
theorem mul_le' {a b c d : Rat} (ha : 0 ≤ a) (hab : a ≤ b) (hc : 0 ≤ c) (hcd : c ≤ d) : a * c ≤ b * d := by
  have h1 : a * c ≤ b * c := Rat.mul_le_mul_of_nonneg_right hab hc
  have h2 : b * c ≤ b * d := Rat.mul_le_mul_of_nonneg_left hcd (by grind)
  grind
theorem Bt.mul {B C : Nat} {x y : Rat} (h : Bt B x) (k : Bt C y) : Bt (B * C) (x * y) := by
  obtain ⟨h1, h2⟩ := h
  obtain ⟨k1, k2⟩ := k
  unfold Bt
  rw [Rat.natCast_mul]
  have p1 := Rat.mul_nonneg (show 0 ≤ ((B : Nat) : Rat) - x by grind) (show 0 ≤ ((C : Nat) : Rat) - y by grind)
  have p2 := Rat.mul_nonneg (show 0 ≤ ((B : Nat) : Rat) + x by grind) (show 0 ≤ ((C : Nat) : Rat) + y by grind)
  have p3 := Rat.mul_nonneg (show 0 ≤ ((B : Nat) : Rat) - x by grind) (show 0 ≤ ((C : Nat) : Rat) + y by grind)
  have p4 := Rat.mul_nonneg (show 0 ≤ ((B : Nat) : Rat) + x by grind) (show 0 ≤ ((C : Nat) : Rat) - y by grind)
  constructor <;> grind
theorem Bt.add {B C : Nat} {x y : Rat} (h : Bt B x) (k : Bt C y) : Bt (B + C) (x + y) := by
  obtain ⟨h1, h2⟩ := h
  obtain ⟨k1, k2⟩ := k
  unfold Bt
  rw [Rat.natCast_add]
  constructor <;> grind
theorem Bt.neg {B : Nat} {x : Rat} (h : Bt B x) : Bt B (-x) := by
  obtain ⟨h1, h2⟩ := h
  constructor <;> grind
theorem Bt.sub {B C : Nat} {x y : Rat} (h : Bt B x) (k : Bt C y) : Bt (B + C) (x - y) := by
  rw [Rat.sub_eq_add_neg]; exact h.add k.neg
theorem Bt.up {B C : Nat} {x : Rat} (h : Bt B x) (k : B ≤ C) : Bt C x := by
  obtain ⟨h1, h2⟩ := h
  have := Rat.natCast_le_natCast.mpr k
  constructor <;> grind
theorem Bt.S {α : Type} {B : Nat} {l : List α} {f : α → Rat} (h : ∀ a ∈ l, Bt B (f a)) : Bt (l.length * B) (S l f) := by
  induction l with
  | nil => rw [S_nil]; exact ⟨by simp, by simp⟩
  | cons a l ih =>
    rw [S_cons, List.length_cons, Nat.succ_mul, Nat.add_comm]
    exact (h a (by simp)).add (ih fun b hb => h b (by simp [hb]))
theorem bt_01 {x : Rat} (h0 : 0 ≤ x) (h1 : x ≤ 1) : Bt 1 x := Bt.of h0 h1
theorem pw (a b : Nat) : (2 : Nat) ^ a * 2 ^ b = 2 ^ (a + b) := (Nat.pow_add 2 a b).symm
/-- D is a denominator, D at most 2^e, the value at most 2^k -/
structure Zp (D e k : Nat) (x : Rat) : Prop where
  f : IsF D x
  b : Bt (2 ^ k) x
  p : 0 < D
  l : D ≤ 2 ^ e
theorem Zp.mul {D E e f k l : Nat} {x y : Rat} (h : Zp D e k x) (i : Zp E f l y) : Zp (D * E) (e + f) (k + l) (x * y) := ⟨h.f.mul i.f, by rw [← pw]; exact h.b.mul i.b, Nat.mul_pos h.p i.p, by rw [← pw]; exact Nat.mul_le_mul h.l i.l⟩
theorem Zp.grow {D e k l : Nat} {x : Rat} (h : Zp D e k x) (hl : k ≤ l) : Zp D e l x := ⟨h.f, h.b.up (Nat.pow_le_pow_right (by omega) hl), h.p, h.l⟩
theorem Zp.add {D e k : Nat} {x y : Rat} (h : Zp D e k x) (i : Zp D e k y) : Zp D e (k + 1) (x + y) := ⟨h.f.add i.f, (h.b.add i.b).up (by rw [Nat.pow_succ]; omega), h.p, h.l⟩
theorem Zp.sub {D e k : Nat} {x y : Rat} (h : Zp D e k x) (i : Zp D e k y) : Zp D e (k + 1) (x - y) := ⟨h.f.sub i.f, (h.b.sub i.b).up (by rw [Nat.pow_succ]; omega), h.p, h.l⟩
theorem Zp.up {D E e f k : Nat} {x : Rat} (h : Zp D e k x) (hd : D ∣ E) (p : 0 < E) (l : E ≤ 2 ^ f) : Zp E f k x := ⟨h.f.up hd, h.b, p, l⟩
theorem Zp.dn {D e k : Nat} {x : Rat} (h : Zp D e k x) : x.den ≤ 2 ^ e ∧ x.num.natAbs ≤ 2 ^ (k + e) := by
  have d := Nat.le_trans (Nat.le_of_dvd h.p (h.f.den h.p)) h.l
  refine ⟨d, Nat.le_trans h.b.num ?_⟩
  rw [← pw]
  exact Nat.mul_le_mul_left _ d
theorem Zp.fits {D E e f k l : Nat} {x y : Rat} (h : Zp D e k x) (i : Zp E f l y) (h1 : e + f < 9000) (h2 : k + e < 20000) (h3 : l + f < 20000) : Fits x y := by
  obtain ⟨a1, a2⟩ := h.dn
  obtain ⟨b1, b2⟩ := i.dn
  refine ⟨Nat.lt_of_le_of_lt (Nat.le_trans (Nat.mul_le_mul a1 b1) (Nat.le_of_eq (pw e f))) (Nat.pow_lt_pow_right (by decide) h1), Nat.lt_of_le_of_lt a2 (Nat.pow_lt_pow_right (by decide) h2), Nat.lt_of_le_of_lt b2 (Nat.pow_lt_pow_right (by decide) h3)⟩
theorem Zp.sum {D e k : Nat} {xs : List Rat} (h : ∀ x ∈ xs, Zp D e k x) (hl : xs.length ≤ 32) (p : 0 < D) (l : D ≤ 2 ^ e) : Zp D e (k + 5) (sumR xs) := by
  rw [sumR_S]
  refine ⟨IsF.S fun x hx => (h x hx).f, (Bt.S fun x hx => (h x hx).b).up ?_, p, l⟩
  rw [Nat.pow_add, Nat.mul_comm]
  exact Nat.mul_le_mul_left _ hl
theorem zp_fold {D e k : Nat} {xs : List Rat} (h : ∀ x ∈ xs, Zp D e k x) (h1 : e + e < 9000) (h2 : k + 6 + e < 20000) (p : 0 < D) (l : D ≤ 2 ^ e) : ∀ {j : Nat} {a : Rat}, IsF D a → Bt (j * 2 ^ k) a → j + xs.length ≤ 33 → FitsL a xs := by
  induction xs with
  | nil => intro j a _ _ _; trivial
  | cons x xs ih =>
    intro j a fa ba hj
    have hx := h x (by simp)
    rw [List.length_cons] at hj
    have za : Zp D e (k + 6) a := ⟨fa, ba.up (by rw [Nat.pow_add, Nat.mul_comm]; exact Nat.mul_le_mul_left _ (by omega)), p, l⟩
    refine ⟨za.fits hx h1 h2 (by omega), ih (fun y hy => h y (by simp [hy])) (j := j + 1) (fa.add hx.f) ?_ (by omega)⟩
    rw [Nat.succ_mul]
    exact ba.add hx.b
theorem Zp.fitsL {D e k : Nat} {xs : List Rat} (h : ∀ x ∈ xs, Zp D e k x) (hl : xs.length ≤ 32) (h1 : e + e < 9000) (h2 : k + 6 + e < 20000) (p : 0 < D) (l : D ≤ 2 ^ e) : FitsL 0 xs := zp_fold h h1 h2 p l (j := 0) (isF_0 D) ⟨by rw [Nat.zero_mul]; decide, by rw [Nat.zero_mul]; decide⟩ (by omega)
theorem zp_int {i : Int} {k : Nat} (h : i.natAbs ≤ 2 ^ k) : Zp 1 0 k (i : Rat) := by
  refine ⟨isF_int 1 i, ⟨?_, ?_⟩, by decide, by decide⟩
  · have : (((-((2 ^ k : Nat) : Int) : Int)) : Rat) ≤ ((i : Int) : Rat) := Rat.intCast_le_intCast.mpr (by omega)
    rw [Rat.intCast_neg] at this
    exact this
  · have : ((i : Int) : Rat) ≤ ((((2 ^ k : Nat) : Int)) : Rat) := Rat.intCast_le_intCast.mpr (by omega)
    exact this
end Gw
/-! Plain: masses on a line, what lies above; a stretch of masses taken away leaves what is above in order. -/
namespace Gw
def pp (x : Rat) : Rat := if x < 0 then 0 else x
theorem pp_nn (x : Rat) : 0 ≤ pp x := by unfold pp; split <;> grind
theorem pp_ge (x : Rat) : x ≤ pp x := by unfold pp; split <;> grind
theorem pp_pos {x : Rat} (h : 0 ≤ x) : pp x = x := by unfold pp; split <;> grind
theorem pp_neg {x : Rat} (h : x ≤ 0) : pp x = 0 := by unfold pp; split <;> grind
/-- the positive part is convex -/
theorem pp_cvx {a b s x y : Rat} (hs : 0 ≤ s) (hs1 : s ≤ 1) (e : x = (1 - s) * a + s * b) : pp (y - x) ≤ (1 - s) * pp (y - a) + s * pp (y - b) := by
  have h1 := Rat.mul_nonneg (show 0 ≤ 1 - s by grind) (pp_nn (y - a))
  have h2 := Rat.mul_nonneg hs (pp_nn (y - b))
  have h3 := Rat.mul_nonneg (show 0 ≤ 1 - s by grind) (show 0 ≤ pp (y - a) - (y - a) by have := pp_ge (y - a); grind)
  have h4 := Rat.mul_nonneg hs (show 0 ≤ pp (y - b) - (y - b) by have := pp_ge (y - b); grind)
  have e2 : pp (y - x) = 0 ∨ pp (y - x) = y - x := by unfold pp; split <;> simp
  rcases e2 with e2 | e2 <;> rw [e2] <;> grind
/-- .. linear where its bend is outside -/
theorem pp_lin {a b s x y : Rat} (hs : 0 ≤ s) (hs1 : s ≤ 1) (hab : a ≤ b) (e : x = (1 - s) * a + s * b) (h : y ≤ a ∨ b ≤ y) : pp (y - x) = (1 - s) * pp (y - a) + s * pp (y - b) := by
  have h1 := Rat.mul_nonneg hs (show 0 ≤ b - a by grind)
  have h2 := Rat.mul_nonneg (show 0 ≤ 1 - s by grind) (show 0 ≤ b - a by grind)
  rcases h with h | h
  · rw [pp_neg (show y - x ≤ 0 by grind), pp_neg (show y - a ≤ 0 by grind), pp_neg (show y - b ≤ 0 by grind)]
    grind
  · rw [pp_pos (show 0 ≤ y - x by grind), pp_pos (show 0 ≤ y - a by grind), pp_pos (show 0 ≤ y - b by grind)]
    grind
theorem S_mono {α : Type} {l : List α} {f g : α → Rat} (h : ∀ a ∈ l, f a ≤ g a) : S l f ≤ S l g := by
  have := S_nonneg (l := l) (f := fun a => g a - f a) fun a ha => by have := h a ha; grind
  rw [S_sub] at this
  grind
/-- masses m at v: what is above x -/
def Cv (n : Nat) (m v : Nat → Rat) (x : Rat) : Rat := S (List.range n) fun j => m j * pp (v j - x)
/-- a guess: what is above x -/
def Ab (g : List (Rat × Rat)) (x : Rat) : Rat := S g fun p => p.1 * pp (p.2 - x)
theorem Ab_cons {p : Rat × Rat} {g : List (Rat × Rat)} {x : Rat} : Ab (p :: g) x = p.1 * pp (p.2 - x) + Ab g x := S_cons
theorem Ab_cvx {g : List (Rat × Rat)} (hg : ∀ p ∈ g, 0 ≤ p.1) {a b s x : Rat} (hs : 0 ≤ s) (hs1 : s ≤ 1) (e : x = (1 - s) * a + s * b) : Ab g x ≤ (1 - s) * Ab g a + s * Ab g b := by
  unfold Ab
  rw [← S_mul, ← S_mul, ← S_add]
  refine S_mono fun p hp => ?_
  have h1 := Rat.mul_nonneg (hg p hp) (show 0 ≤ (1 - s) * pp (p.2 - a) + s * pp (p.2 - b) - pp (p.2 - x) by have := pp_cvx (y := p.2) hs hs1 e; grind)
  grind
structure Inv81 (n : Nat) (m v : Nat → Rat) (g : List (Rat × Rat)) : Prop where
  nn : ∀ j, j < n → 0 ≤ m j
  gn : ∀ p ∈ g, 0 < p.1
  tot : S (List.range n) m = S g fun p => p.1
  mean : S (List.range n) (fun j => m j * v j) = S g fun p => p.1 * p.2
  cx : ∀ x, Ab g x ≤ Cv n m v x
/-- a stretch: t of the masses m at v, of the mass c, worth c * w; between the indices a and z all is taken, outside none -/
structure Str81 (n : Nat) (m v t : Nat → Rat) (c w : Rat) : Prop where
  c0 : 0 < c
  lo : ∀ j, j < n → 0 ≤ t j
  hi : ∀ j, j < n → t j ≤ m j
  sum : S (List.range n) t = c
  mean : S (List.range n) (fun j => t j * v j) = c * w
  con : ∃ a z, a < n ∧ z < n ∧ a ≤ z ∧ (∀ j, j < a → t j = 0) ∧ (∀ j, z < j → j < n → t j = 0) ∧ (∀ j, a < j → j < z → t j = m j)
theorem Inv81.step {n : Nat} {m v t : Nat → Rat} {p : Rat × Rat} {g : List (Rat × Rat)} (h : Inv81 n m v (p :: g)) (hv : ∀ i j, i ≤ j → j < n → v i ≤ v j) (k : Str81 n m v t p.1 p.2) : Inv81 n (fun j => m j - t j) v g := by
  obtain ⟨hnn, hgn, htot, hmean, hcx⟩ := h
  obtain ⟨c0, lo, hi, sum, mean, a, z, ha, hz, haz, q0, q1, q2⟩ := k
  rw [S_cons] at htot hmean
  have hg' : ∀ q ∈ g, 0 ≤ q.1 := fun q hq => by have := hgn q (List.mem_cons_of_mem _ hq); grind
  have out : ∀ j, j < n → t j ≠ 0 → a ≤ j ∧ j ≤ z := fun j hj ht => ⟨by
    rcases Nat.lt_or_ge j a with q | q
    · exact absurd (q0 j q) ht
    · exact q, by
    rcases Nat.lt_or_ge z j with q | q
    · exact absurd (q1 j q hj) ht
    · exact q⟩
  have key : ∀ x, Cv n (fun j => m j - t j) v x = Cv n m v x - S (List.range n) fun j => t j * pp (v j - x) := fun x => by
    unfold Cv
    rw [← S_sub]
    exact S_congr fun j _ => by grind
  -- the mean lies between
  have w1 : v a ≤ p.2 := by
    have h1 : 0 ≤ S (List.range n) fun j => t j * (v j - v a) := S_nonneg fun j hj => by
      have hj := List.mem_range.mp hj
      by_cases e : t j = 0
      · rw [e]; grind
      · exact Rat.mul_nonneg (lo j hj) (by have := hv a j (out j hj e).1 hj; grind)
    have e1 : (S (List.range n) fun j => t j * (v j - v a)) = S (List.range n) (fun j => t j * v j) - S (List.range n) t * v a := by
      rw [← S_mulr, ← S_sub]
      exact S_congr fun j _ => by grind
    rw [e1, mean, sum] at h1
    have h2 : 0 ≤ p.1 * (p.2 - v a) := by grind
    by_cases y : v a ≤ p.2
    · exact y
    · have := Rat.mul_pos c0 (show 0 < v a - p.2 by grind)
      grind
  have w2 : p.2 ≤ v z := by
    have h1 : 0 ≤ S (List.range n) fun j => t j * (v z - v j) := S_nonneg fun j hj => by
      have hj := List.mem_range.mp hj
      by_cases e : t j = 0
      · rw [e]; grind
      · exact Rat.mul_nonneg (lo j hj) (by have := hv j z (out j hj e).2 hz; grind)
    have e1 : (S (List.range n) fun j => t j * (v z - v j)) = S (List.range n) t * v z - S (List.range n) (fun j => t j * v j) := by
      rw [← S_mulr, ← S_sub]
      exact S_congr fun j _ => by grind
    rw [e1, mean, sum] at h1
    have h2 : 0 ≤ p.1 * (v z - p.2) := by grind
    by_cases y : p.2 ≤ v z
    · exact y
    · have := Rat.mul_pos c0 (show 0 < p.2 - v z by grind)
      grind
  have low : ∀ x, x ≤ v a → Ab g x ≤ Cv n (fun j => m j - t j) v x := fun x hx => by
    rw [key]
    have h1 := hcx x
    rw [Ab_cons, pp_pos (show 0 ≤ p.2 - x by grind)] at h1
    have e1 : (S (List.range n) fun j => t j * pp (v j - x)) = S (List.range n) (fun j => t j * v j) - S (List.range n) t * x := by
      rw [← S_mulr, ← S_sub]
      refine S_congr fun j hj => ?_
      have hj := List.mem_range.mp hj
      by_cases e : t j = 0
      · rw [e]; grind
      · rw [pp_pos (show 0 ≤ v j - x by have := hv a j (out j hj e).1 hj; grind)]
        grind
    rw [e1, mean, sum]
    grind
  have high : ∀ x, v z ≤ x → Ab g x ≤ Cv n (fun j => m j - t j) v x := fun x hx => by
    rw [key]
    have h1 := hcx x
    rw [Ab_cons, pp_neg (show p.2 - x ≤ 0 by grind)] at h1
    have e1 : (S (List.range n) fun j => t j * pp (v j - x)) = 0 := by
      refine S_zero' fun j hj => ?_
      have hj := List.mem_range.mp hj
      by_cases e : t j = 0
      · rw [e]; grind
      · rw [pp_neg (show v j - x ≤ 0 by have := hv j z (out j hj e).2 hz; grind)]
        grind
    rw [e1]
    grind
  refine ⟨fun j hj => by have := hi j hj; grind, fun q hq => hgn q (List.mem_cons_of_mem _ hq), ?_, ?_, fun x => ?_⟩
  · rw [S_sub, htot, sum]
    grind
  · have e1 : (S (List.range n) fun j => (m j - t j) * v j) = S (List.range n) (fun j => m j * v j) - S (List.range n) (fun j => t j * v j) := by
      rw [← S_sub]
      exact S_congr fun j _ => by grind
    rw [e1, hmean, mean]
    grind
  · by_cases x1 : x ≤ v a
    · exact low x x1
    by_cases x2 : v z ≤ x
    · exact high x x2
    have hab : 0 < v z - v a := by grind
    obtain ⟨s, hs⟩ : ∃ s, s = (x - v a) / (v z - v a) := ⟨_, rfl⟩
    have es : s * (v z - v a) = x - v a := by
      rw [hs, Rat.div_mul_cancel (by grind)]
    have s0 : 0 ≤ s := by
      by_cases y : 0 ≤ s
      · exact y
      · have := Rat.mul_pos (show 0 < -s by grind) hab
        grind
    have s1 : s ≤ 1 := by
      by_cases y : s ≤ 1
      · exact y
      · have := Rat.mul_pos (show 0 < s - 1 by grind) hab
        grind
    have ex : x = (1 - s) * v a + s * v z := by grind
    have c1 := Ab_cvx hg' s0 s1 ex
    have l1 := low (v a) (by grind)
    have l2 := high (v z) (by grind)
    have e1 : Cv n (fun j => m j - t j) v x = (1 - s) * Cv n (fun j => m j - t j) v (v a) + s * Cv n (fun j => m j - t j) v (v z) := by
      unfold Cv
      rw [← S_mul, ← S_mul, ← S_add]
      refine S_congr fun j hj => ?_
      have hj := List.mem_range.mp hj
      by_cases i1 : a < j ∧ j < z
      · show (m j - t j) * _ = (1 - s) * ((m j - t j) * _) + s * ((m j - t j) * _)
        rw [q2 j i1.1 i1.2]
        grind
      · have i2 : v j ≤ v a ∨ v z ≤ v j := by
          rcases Nat.lt_or_ge a j with q | q
          · exact .inr (hv z j (by omega) hj)
          · exact .inl (hv j a q ha)
        rw [pp_lin s0 s1 (by grind) ex i2]
        grind
    rw [e1]
    have := Rat.mul_nonneg s0 (show 0 ≤ Cv n (fun j => m j - t j) v (v z) - Ab g (v z) by grind)
    have := Rat.mul_nonneg (show 0 ≤ 1 - s by grind) (show 0 ≤ Cv n (fun j => m j - t j) v (v a) - Ab g (v a) by grind)
    grind
end Gw
/-! Plain: hinges: which of two guesses is less spread is told at the second one's worths. -/
namespace Gw
theorem S_filter {α : Type} {f : α → Bool} {w : α → Rat} : ∀ l : List α, S (l.filter f) w = S l fun a => if f a = true then w a else 0
  | [] => rfl
  | a :: l => by
    rw [List.filter_cons, S_cons]
    split
    · rw [S_cons, S_filter l]
    · rw [S_filter l]
      grind
theorem aboveR_eq (g : List (Rat × Rat)) (x : Rat) : aboveR g x = Ab g x := by
  unfold aboveR aboveL Ab
  rw [sumR_S, S_map, S_filter]
  refine S_congr fun p _ => ?_
  by_cases h : p.2 < x
  · rw [if_neg (by simp [h]), pp_neg (by grind)]
    grind
  · rw [if_pos (by simp [h]), pp_pos (by grind)]
theorem hgO_none {g o : List (Rat × Rat)} : hgO g o = none ↔ ∀ q ∈ o, Ab g q.2 ≤ Ab o q.2 := by
  unfold hgO
  rw [Option.map_eq_none_iff, List.find?_eq_none]
  constructor
  · intro h q hq
    have := h q hq
    unfold hgP at this
    rw [aboveR_eq, aboveR_eq] at this
    have h2 : ¬ Ab o q.2 < Ab g q.2 := by simpa using this
    exact Rat.not_lt.mp h2
  · intro h q hq
    unfold hgP
    rw [aboveR_eq, aboveR_eq]
    simp only [decide_eq_true_eq]
    exact Rat.not_lt.mpr (h q hq)
theorem hgO_some {g o : List (Rat × Rat)} {x : Rat} (h : hgO g o = some x) : (∃ q ∈ o, x = q.2) ∧ Ab o x < Ab g x := by
  unfold hgO at h
  rw [Option.map_eq_some_iff] at h
  obtain ⟨q, h1, rfl⟩ := h
  have h2 := List.find?_some h1
  unfold hgP at h2
  rw [aboveR_eq, aboveR_eq] at h2
  exact ⟨⟨q, List.mem_of_find?_eq_some h1, rfl⟩, of_decide_eq_true h2⟩
theorem ex_max {x : Rat} : ∀ (l : List Rat), (∃ y ∈ l, y ≤ x) → ∃ a ∈ l, a ≤ x ∧ ∀ y ∈ l, y ≤ x → y ≤ a
  | [], h => by obtain ⟨y, hy, _⟩ := h; simp at hy
  | z :: l, h => by
    by_cases e : ∃ y ∈ l, y ≤ x
    · obtain ⟨a, ha, h1, h2⟩ := ex_max l e
      by_cases hz : z ≤ x ∧ a ≤ z
      · refine ⟨z, by simp, hz.1, fun y hy hyx => ?_⟩
        rcases List.mem_cons.mp hy with rfl | hy
        · grind
        · have := h2 y hy hyx
          grind
      · refine ⟨a, by simp [ha], h1, fun y hy hyx => ?_⟩
        rcases List.mem_cons.mp hy with rfl | hy
        · grind
        · exact h2 y hy hyx
    · obtain ⟨y, hy, hyx⟩ := h
      rcases List.mem_cons.mp hy with rfl | hy
      · refine ⟨y, by simp, hyx, fun w hw hwx => ?_⟩
        rcases List.mem_cons.mp hw with rfl | hw
        · grind
        · exact absurd ⟨w, hw, hwx⟩ e
      · exact absurd ⟨y, hy, hyx⟩ e
theorem ex_min {x : Rat} (l : List Rat) (h : ∃ y ∈ l, x ≤ y) : ∃ a ∈ l, x ≤ a ∧ ∀ y ∈ l, x ≤ y → a ≤ y := by
  obtain ⟨y, hy, hyx⟩ := h
  obtain ⟨a, ha, h1, h2⟩ := ex_max (x := -x) (l.map fun y => -y) ⟨-y, List.mem_map.mpr ⟨y, hy, rfl⟩, by grind⟩
  obtain ⟨b, hb, rfl⟩ := List.mem_map.mp ha
  refine ⟨b, hb, by grind, fun z hz hzx => ?_⟩
  have := h2 (-z) (List.mem_map.mpr ⟨z, hz, rfl⟩) (by grind)
  grind
/-- chances above 0, one together, the mean one -/
structure Gs (g : List (Rat × Rat)) : Prop where
  ne : g ≠ []
  pos : ∀ p ∈ g, 0 < p.1
  one : S g (fun p => p.1) = 1
  mean : S g (fun p => p.1 * p.2) = 1
theorem Ab_nn {g : List (Rat × Rat)} (h : ∀ p ∈ g, 0 < p.1) (x : Rat) : 0 ≤ Ab g x := S_nonneg fun p hp => Rat.mul_nonneg (by have := h p hp; grind) (pp_nn _)
theorem Ab_lin {g : List (Rat × Rat)} (x : Rat) : S g (fun p => p.1 * (p.2 - x)) = S g (fun p => p.1 * p.2) - S g (fun p => p.1) * x := by
  rw [← S_mulr, ← S_sub]
  exact S_congr fun p _ => by grind
theorem Ab_below {g : List (Rat × Rat)} {x : Rat} (h : ∀ p ∈ g, x ≤ p.2) : Ab g x = S g (fun p => p.1 * p.2) - S g (fun p => p.1) * x := by
  rw [← Ab_lin]
  exact S_congr fun p hp => by rw [pp_pos (by have := h p hp; grind)]
theorem Ab_above {g : List (Rat × Rat)} {x : Rat} (h : ∀ p ∈ g, p.2 ≤ x) : Ab g x = 0 := S_zero' fun p hp => by rw [pp_neg (by have := h p hp; grind)]; grind
theorem Ab_ge {g : List (Rat × Rat)} (hg : Gs g) (x : Rat) : 1 - x ≤ Ab g x := by
  have h1 := Ab_lin (g := g) x
  rw [hg.one, hg.mean] at h1
  have h2 : S g (fun p => p.1 * (p.2 - x)) ≤ Ab g x := S_mono fun p hp => by
    have := Rat.mul_nonneg (show 0 ≤ p.1 by have := hg.pos p hp; grind) (show 0 ≤ pp (p.2 - x) - (p.2 - x) by have := pp_ge (p.2 - x); grind)
    grind
  grind
theorem Ab_dom {g o : List (Rat × Rat)} (hg : Gs g) (ho : Gs o) (h : ∀ q ∈ o, Ab g q.2 ≤ Ab o q.2) (x : Rat) : Ab g x ≤ Ab o x := by
  have hpos : ∀ p ∈ g, 0 ≤ p.1 := fun p hp => by have := hg.pos p hp; grind
  obtain ⟨q0, hq0⟩ := List.exists_mem_of_ne_nil o ho.ne
  by_cases lo : ∃ y ∈ o.map (·.2), y ≤ x
  · by_cases hi : ∃ y ∈ o.map (·.2), x ≤ y
    · obtain ⟨a, ha, a1, a2⟩ := ex_max _ lo
      obtain ⟨b, hb, b1, b2⟩ := ex_min _ hi
      obtain ⟨qa, hqa, rfl⟩ := List.mem_map.mp ha
      obtain ⟨qb, hqb, rfl⟩ := List.mem_map.mp hb
      by_cases e : qa.2 = qb.2
      · have : x = qa.2 := by grind
        rw [this]
        exact h qa hqa
      · have hab : 0 < qb.2 - qa.2 := by grind
        obtain ⟨s, hs⟩ : ∃ s, s = (x - qa.2) / (qb.2 - qa.2) := ⟨_, rfl⟩
        have es : s * (qb.2 - qa.2) = x - qa.2 := by rw [hs, Rat.div_mul_cancel (by grind)]
        have s0 : 0 ≤ s := by
          by_cases y : 0 ≤ s
          · exact y
          · have := Rat.mul_pos (show 0 < -s by grind) hab
            grind
        have s1 : s ≤ 1 := by
          by_cases y : s ≤ 1
          · exact y
          · have := Rat.mul_pos (show 0 < s - 1 by grind) hab
            grind
        have ex : x = (1 - s) * qa.2 + s * qb.2 := by grind
        have c1 := Ab_cvx hpos s0 s1 ex
        have c2 : Ab o x = (1 - s) * Ab o qa.2 + s * Ab o qb.2 := by
          unfold Ab
          rw [← S_mul, ← S_mul, ← S_add]
          refine S_congr fun q hq => ?_
          have i2 : q.2 ≤ qa.2 ∨ qb.2 ≤ q.2 := by
            by_cases y : q.2 ≤ x
            · exact .inl (a2 _ (List.mem_map.mpr ⟨q, hq, rfl⟩) y)
            · exact .inr (b2 _ (List.mem_map.mpr ⟨q, hq, rfl⟩) (by grind))
          rw [pp_lin s0 s1 (by grind) ex i2]
          grind
        have l1 := h qa hqa
        have l2 := h qb hqb
        have := Rat.mul_nonneg s0 (show 0 ≤ Ab o qb.2 - Ab g qb.2 by grind)
        have := Rat.mul_nonneg (show 0 ≤ 1 - s by grind) (show 0 ≤ Ab o qa.2 - Ab g qa.2 by grind)
        grind
    · obtain ⟨a, ha, a1, a2⟩ := ex_max _ lo
      obtain ⟨qa, hqa, rfl⟩ := List.mem_map.mp ha
      have all : ∀ q ∈ o, q.2 ≤ qa.2 := fun q hq => a2 _ (List.mem_map.mpr ⟨q, hq, rfl⟩) (by
        by_cases y : q.2 ≤ x
        · exact y
        · exact absurd ⟨q.2, List.mem_map.mpr ⟨q, hq, rfl⟩, by grind⟩ hi)
      have h0 := h qa hqa
      rw [Ab_above all] at h0
      have z : Ab g x = 0 := Ab_above fun p hp => by
        have h1 : p.1 * pp (p.2 - qa.2) ≤ Ab g qa.2 := S_le (f := fun q : Rat × Rat => q.1 * pp (q.2 - qa.2)) (fun q hq => Rat.mul_nonneg (hpos q hq) (pp_nn _)) hp
        have h2 := pp_nn (p.2 - qa.2)
        have h3 := hg.pos p hp
        have h4 : pp (p.2 - qa.2) ≤ 0 := by
          by_cases y : pp (p.2 - qa.2) ≤ 0
          · exact y
          · have := Rat.mul_pos h3 (show 0 < pp (p.2 - qa.2) by grind)
            grind
        have h5 := pp_ge (p.2 - qa.2)
        grind
      rw [z]
      exact Ab_nn ho.pos x
  · have hi : ∃ y ∈ o.map (·.2), x ≤ y := ⟨q0.2, List.mem_map.mpr ⟨q0, hq0, rfl⟩, by
      by_cases y : q0.2 ≤ x
      · exact absurd ⟨q0.2, List.mem_map.mpr ⟨q0, hq0, rfl⟩, y⟩ lo
      · grind⟩
    obtain ⟨b, hb, b1, b2⟩ := ex_min _ hi
    obtain ⟨qb, hqb, rfl⟩ := List.mem_map.mp hb
    have gx : ∀ q ∈ o, x ≤ q.2 := fun q hq => by
      by_cases y : q.2 ≤ x
      · exact absurd ⟨q.2, List.mem_map.mpr ⟨q, hq, rfl⟩, y⟩ lo
      · grind
    have h0 := h qb hqb
    rw [Ab_below (fun q hq => b2 _ (List.mem_map.mpr ⟨q, hq, rfl⟩) (gx q hq)), ho.one, ho.mean] at h0
    have all : ∀ p ∈ g, qb.2 ≤ p.2 := fun p hp => by
      have h1 : p.1 * (pp (p.2 - qb.2) - (p.2 - qb.2)) ≤ S g fun q => q.1 * (pp (q.2 - qb.2) - (q.2 - qb.2)) := S_le (f := fun q : Rat × Rat => q.1 * (pp (q.2 - qb.2) - (q.2 - qb.2))) (fun q hq => Rat.mul_nonneg (hpos q hq) (by have := pp_ge (q.2 - qb.2); grind)) hp
      have e : (S g fun q => q.1 * (pp (q.2 - qb.2) - (q.2 - qb.2))) = Ab g qb.2 - S g (fun q => q.1 * (q.2 - qb.2)) := by
        unfold Ab
        rw [← S_sub]
        exact S_congr fun q _ => by grind
      rw [e, Ab_lin, hg.one, hg.mean] at h1
      have h3 := hg.pos p hp
      have h4 : pp (p.2 - qb.2) - (p.2 - qb.2) ≤ 0 := by
        by_cases y : pp (p.2 - qb.2) - (p.2 - qb.2) ≤ 0
        · exact y
        · have := Rat.mul_pos h3 (show 0 < pp (p.2 - qb.2) - (p.2 - qb.2) by grind)
          grind
      have h5 := pp_nn (p.2 - qb.2)
      grind
    rw [Ab_below gx, Ab_below (fun p hp => by have := all p hp; grind), hg.one, hg.mean, ho.one, ho.mean]
    exact Rat.le_refl
theorem hgO_all {g o : List (Rat × Rat)} (hg : Gs g) (ho : Gs o) : hgO g o = none ↔ ∀ x, Ab g x ≤ Ab o x := by
  rw [hgO_none]
  exact ⟨fun h x => Ab_dom hg ho h x, fun h q _ => h q.2⟩
/-! ### in twelfths -/
def Al (g : LGu) (x : Rat) : Rat := S g fun p => p.1 * pp (((p.2 : Int) : Rat) - x)
theorem laR_eq (g : LGu) (x : Rat) : laR g x = Al g x := by
  unfold laR laL Al
  rw [sumR_S, S_map, S_filter]
  refine S_congr fun p _ => ?_
  by_cases h : x - ((p.2 : Int) : Rat) < 0
  · rw [if_pos (by simp [h]), pp_pos (by grind)]
  · rw [if_neg (by simp [h]), pp_neg (by grind)]
    grind
theorem pp_12 (x : Rat) : pp (12 * x) = 12 * pp x := by
  by_cases h : x ≤ 0
  · rw [pp_neg h, pp_neg (by grind)]
    grind
  · rw [pp_pos (show 0 ≤ x by grind), pp_pos (show 0 ≤ 12 * x by grind)]
theorem dv12 (k : Nat) : ((k : Int) : Rat) = 12 * Rat.divInt (k : Int) 12 := by
  rw [Rat.divInt_eq_div]
  have : ((12 : Int) : Rat) = 12 := rfl
  rw [this, Rat.mul_comm, Rat.div_mul_cancel (by decide)]
theorem Al_sc (g : LGu) (x : Rat) : Al g (12 * x) = 12 * Ab (scG g) x := by
  unfold Al Ab scG
  rw [S_map, ← S_mul]
  refine S_congr fun p _ => ?_
  show p.1 * pp (((p.2 : Int) : Rat) - 12 * x) = 12 * (p.1 * pp (Rat.divInt (p.2 : Int) 12 - x))
  rw [dv12, show 12 * Rat.divInt (p.2 : Int) 12 - 12 * x = 12 * (Rat.divInt (p.2 : Int) 12 - x) by grind, pp_12]
  grind
theorem Al_all {g o : LGu} : (∀ x, Al g x ≤ Al o x) ↔ ∀ x, Ab (scG g) x ≤ Ab (scG o) x := by
  constructor
  · intro h x
    have := h (12 * x)
    rw [Al_sc, Al_sc] at this
    grind
  · intro h x
    have := h (x / 12)
    have e : x = 12 * (x / 12) := by rw [Rat.mul_comm, Rat.div_mul_cancel (by decide)]
    rw [e, Al_sc, Al_sc]
    grind
theorem laH_false {g o : LGu} : laH g o = false ↔ ∀ p ∈ g ++ o, Al g ((p.2 : Int) : Rat) ≤ Al o ((p.2 : Int) : Rat) := by
  unfold laH
  rw [Bool.not_eq_false', List.isEmpty_iff, List.map_eq_nil_iff, List.filter_eq_nil_iff]
  constructor
  · intro h p hp
    have := h p hp
    rw [laR_eq, laR_eq] at this
    exact Rat.not_lt.mp (by simpa using this)
  · intro h p hp
    rw [laR_eq, laR_eq]
    simp only [decide_eq_true_eq]
    exact Rat.not_lt.mpr (h p hp)
theorem laH_all {g o : LGu} (hg : Gs (scG g)) (ho : Gs (scG o)) : laH g o = false ↔ ∀ x, Al g x ≤ Al o x := by
  rw [laH_false]
  constructor
  · intro h
    rw [Al_all]
    refine Ab_dom hg ho fun q hq => ?_
    obtain ⟨p, hp, rfl⟩ := List.mem_map.mp hq
    have := h p (List.mem_append_right _ hp)
    rw [dv12, Al_sc, Al_sc] at this
    show Ab (scG g) (Rat.divInt (p.2 : Int) 12) ≤ Ab (scG o) (Rat.divInt (p.2 : Int) 12)
    grind
  · intro h p _
    exact h _
theorem due_eq {g o : LGu} (hg : Gs (scG g)) (ho : Gs (scG o)) : (hgO (scG g) (scG o)).isNone = !laH g o := by
  have h1 := laH_all hg ho
  have h2 := hgO_all hg ho
  rw [← Al_all, ← h1] at h2
  cases e : laH g o with
  | false => rw [h2.mpr e]; rfl
  | true =>
    cases e2 : hgO (scG g) (scG o) with
    | none => rw [h2.mp e2] at e; cases e
    | some q => rfl
end Gw
/-! Plain: the program's judge of any value and the law's own one say the same. -/
namespace Gw
theorem scG_len' (o : LGu) : (scG o).length = o.length := by simp [scG]
theorem sum12 : ∀ (xs : List Rat) (o : LGu), sumR ((xs.zip o).map fun q => q.1 * ((q.2.2 : Int) : Rat)) = 12 * sumR (((scG o).zip xs).map fun q => q.1.2 * q.2) := by
  intro xs o
  rw [sumR_S, sumR_S, S_map, S_map]
  induction xs generalizing o with
  | nil => simp [S_nil]
  | cons x xs ih =>
    cases o with
    | nil => simp [scG, S_nil]
    | cons p o =>
      show S ((x, p) :: xs.zip o) _ = 12 * S ((((p.1, Rat.divInt (p.2 : Int) 12)) , x) :: (scG o).zip xs) _
      rw [S_cons, S_cons, ih o]
      show x * ((p.2 : Int) : Rat) + _ = 12 * (Rat.divInt (p.2 : Int) 12 * x + _)
      rw [dv12 p.2]
      grind
theorem zip_mapr {α β γ : Type} (f : β → γ) : ∀ (xs : List α) (ys : List β), xs.zip (ys.map f) = (xs.zip ys).map fun q => (q.1, f q.2)
  | [], ys => by simp
  | x :: xs, [] => by simp
  | x :: xs, y :: ys => by simp [zip_mapr f xs ys]
theorem zip_all_r {α β : Type} (f : β → Bool) : ∀ (xs : List α) (ys : List β), ys.length = xs.length → ys.all f = (xs.zip ys).all fun q => f q.2
  | [], [], _ => rfl
  | [], _ :: _, h => by simp at h
  | _ :: _, [], h => by simp at h
  | x :: xs, y :: ys, h => by
    rw [List.all_cons, List.zip_cons_cons, List.all_cons, zip_all_r f xs ys (by simpa using h)]
theorem all_and {α : Type} (f h : α → Bool) : ∀ l : List α, l.all (fun x => f x && h x) = (l.all f && l.all h)
  | [] => rfl
  | x :: l => by
    rw [List.all_cons, List.all_cons, List.all_cons, all_and f h l]
    cases f x <;> cases h x <;> cases l.all f <;> cases l.all h <;> rfl
theorem all_congr {α : Type} {f h : α → Bool} : ∀ {l : List α}, (∀ x ∈ l, f x = h x) → l.all f = l.all h
  | [], _ => rfl
  | x :: l, e => by rw [List.all_cons, List.all_cons, e x (by simp), all_congr fun y hy => e y (by simp [hy])]
theorem row_eq (o : LGu) (p : (Rat × Nat) × Dv) : lsRow o p = (chD (scG o).length p.2 && e1D (scG o) ((p.1.1, Rat.divInt (p.1.2 : Int) 12), p.2)) := by
  cases hs : sqD p.2 with
  | none =>
    rw [lsRow_none hs]
    unfold chD
    rw [hs]
    rfl
  | some l =>
    rw [lsRow_some hs]
    unfold chD e1D
    rw [hs, scG_len', sqV_some hs, sum12, zip_mapr, List.map_map]
    congr 1
    show decide _ = decide _
    rw [decide_eq_decide]
    show 12 * sumR (((scG o).zip l).map fun q => q.1.2 * nuV q.2) = _ ↔ sumR (((scG o).zip l).map fun q => q.1.2 * nuV q.2) = Rat.divInt (p.1.2 : Int) 12
    rw [dv12 p.1.2]
    constructor
    · intro h; grind
    · intro h; rw [h]
theorem enumN_map {α β : Type} (f : α → β) (l : List α) : enumN (l.map f) = (enumN l).map fun p => (p.1, f p.2) := by
  apply List.ext_getElem?
  intro i
  rw [List.getElem?_map]
  by_cases h : i < l.length
  · have h1 : i < (enumN l).length := by rw [enumN_len]; exact h
    have h2 : i < (enumN (l.map f)).length := by rw [enumN_len, List.length_map]; exact h
    have a := enumN_get (List.getElem?_eq_getElem h1)
    have b := enumN_get (List.getElem?_eq_getElem h2)
    rw [List.getElem?_eq_getElem h1, List.getElem?_eq_getElem h2]
    obtain ⟨a1, a2⟩ := a
    obtain ⟨b1, b2⟩ := b
    rw [List.getElem?_map, a2] at b2
    simp only [Option.map_some, Option.some.injEq] at b2 ⊢
    apply Prod.ext
    · rw [b1, a1]
    · exact b2.symm
  · rw [List.getElem?_eq_none (by rw [enumN_len, List.length_map]; omega), List.getElem?_eq_none (by rw [enumN_len]; omega)]
    rfl
theorem splD_ls (g o : LGu) (d : Dv) : splD (scG g) (scG o) d = lsD g o d := by
  cases hs : sqD d with
  | none => rw [splD_none hs, lsD_none hs]
  | some rows =>
    rw [splD_some hs, lsD_some hs, scG_len']
    by_cases hl : rows.length = g.length
    · have e1 : rows.all (chD (scG o).length) = ((scG g).zip rows).all fun q => chD (scG o).length q.2 := zip_all_r _ _ _ (by rw [scG_len']; exact hl)
      have ez : (scG g).zip rows = (g.zip rows).map fun q => ((q.1.1, Rat.divInt (q.1.2 : Int) 12), q.2) := by
        unfold scG
        rw [List.zip_map_left]
        rfl
      have e2 : (g.zip rows).all (lsRow o) = (rows.all (chD (scG o).length) && ((scG g).zip rows).all (e1D (scG o))) := by
        rw [e1, ← all_and, ez, List.all_map]
        exact all_congr fun q _ => row_eq o q
      have e3 : ((enumN (scG o)).all fun p => decide (e2R (scG g) rows p.1 = p.2.1)) = (enumN o).all fun p => decide (lsE g rows p.1 = p.2.1) := by
        unfold scG
        rw [enumN_map, List.all_map]
        refine all_congr fun q _ => ?_
        show decide (e2R (scG g) rows q.1 = q.2.1) = _
        have : e2R (scG g) rows q.1 = lsE g rows q.1 := by
          unfold e2R lsE
          rw [ez, List.map_map]
          rfl
        rw [this]
      rw [e2, e3, decide_eq_true hl]
      cases rows.all (chD (scG o).length) <;> rfl
    · rw [decide_eq_false hl]
      rfl
theorem hgD_la (g o : LGu) (d : Dv) : hgD (scG g) (scG o) d = (isND d && decide (laR o (nuV d * ((12 : Int) : Rat)) < laR g (nuV d * ((12 : Int) : Rat)))) := by
  unfold hgD
  congr 1
  rw [decide_eq_decide, aboveR_eq, aboveR_eq, laR_eq, laR_eq]
  have e : nuV d * ((12 : Int) : Rat) = 12 * nuV d := by
    rw [Rat.mul_comm]
    rfl
  rw [e, Al_sc, Al_sc]
  constructor <;> intro h <;> grind
end Gw
set_option maxHeartbeats 1000000
namespace Gw
open PySem PySem.Spec PyProof.Rows L2
/-! ### small rules -/
theorem rop_eqB {pp : Option Addr} {s t : Bool} : ROp pp rEq (IsB s) (IsB t) (IsB (decide (s = t))) := fun x y F H Q ok u1 u2 k => by
  rw [u1.here, u2.here]
  refine ⟨rfl, k _ F H ok.gr fun F' _ => ?_⟩
  show V.bl _ = V.bl _
  congr 1
  simp
theorem eqvI : ∀ xs : List Int, PyData.eqvAll (xs.map PyData.int) (xs.map PyData.int) = true
  | [] => by simp [PyData.eqvAll]
  | x :: xs => by
    have := eqvI xs
    simp [PyData.eqvAll, PyData.eqv] at this ⊢
    exact this
theorem rop_neLI {K : PySem.W.Frag} {pp : Option Addr} {xs : List Int} : ROp pp (rNeD K) (IsL IsI xs) (IsL IsI xs) (IsB false) := fun x y F H Q ok u1 u2 k => by
  obtain ⟨a, vs, rfl, ha, u⟩ := u1.here
  have e := ls_ints u.here
  subst e
  obtain ⟨b, ws, rfl, hb, w⟩ := u2.here
  have e2 := ls_ints w.here
  subst e2
  refine ⟨_, _, .lst (.inl (.inl (ok.s _ _ ha))) (dp_ints xs), .lst (.inl (.inl (ok.s _ _ hb))) (dp_ints xs), shaped_ints xs, shaped_ints xs, k _ F H ok.gr fun F' _ => ?_⟩
  show V.bl _ = V.bl _
  have := eqvI xs
  simp [PyData.eqv, this]
def tOS (E : En) (G : List Sl) (P : Nat → Prop) : TO := fun σ H Q => ∃ F, Sat E G σ F H ∧ ∀ (d : Nat) F' H', P d → Gr E.pp F H F' H' → Q (some (d : Int)) H'
theorem jo_someS {X : Cx} {E : En} {G : List Sl} {e : Expr} {P : Nat → Prop} (p : PE X e (tE E G (Som P IsU))) : PO X (some e) (tOS E G P) := PO_imp (po_some p) fun σ H Q ⟨F, S, k⟩ => ⟨F, S, fun v F1 H1 g u => by
  obtain ⟨d, pd, e⟩ := u.here
  exact ⟨(d : Int), e, k d F1 H1 pd g⟩⟩
theorem jm_sliceSO {X : Cx} {E : En} {G : List Sl} {e : Expr} {K : PySem.W.Frag} {α : Type} {Rx : α → V → Hp → Prop} {xs : List α} {P : Nat → Prop} {hi : Option Int} {st : Int} (h0 : st ≠ 0) (p : PE X e (tSlS (rSlS K) (tE E G (IsL Rx xs)) (tOS E G P) (tO E G hi) (tO E G (some st)))) : PE X e (tM E G (SomM P fun d => LsOf Rx (pkL xs (some (d : Int)) hi (some st)))) := PE_imp p fun σ H Q ⟨F, S, k⟩ =>
  ⟨F, S, fun x F1 H1 g1 u1 => ⟨F1, S.gr g1, fun d F2 H2 pd g2 => ⟨F2, S.gr (g1.trans g2), fun F3 H3 g3 => ⟨F3, S.gr ((g1.trans g2).trans g3), fun F4 H4 g4 => by
    obtain ⟨a, vs, rfl, ha, u⟩ := u1.here
    refine ⟨a, vs, rfl, .inl (.inl (g4.s _ _ (g4.f _ _ (g3.f _ _ (g2.f _ _ ha))))), by simpa using h0, fun p hp => ?_⟩
    have g := ((g1.trans g2).trans g3).trans g4
    exact k p _ F4 _ (g.trans (Gr.raw g.ok hp)) (g.back hp) (g.s.back hp) upd_same (((LsOf.up (paired_pk u.here (some (d : Int)) hi (some st))).mono (((g2.trans g3).trans g4).f)).imp fun F l => ⟨d, pd, l⟩)⟩⟩⟩⟩
/-! ### the values tried -/
theorem Rok.leaf {d : Dv} (h : Eok d) (hs : sqD d = none) : Rok d := ⟨fun m hm => (by rw [hs] at hm; cases hm), h.ok, Nat.le_trans h.dp (by omega), Nat.le_trans h.len (by omega)⟩
theorem Vok.leaf {d : Dv} (h : Rok d) (hs : sqD d = none) (hq : ∀ r, d ≠ .q r) : Vok d := ⟨fun m hm => (by rw [hs] at hm; cases hm), h.ok, Nat.le_trans h.dp (by omega), Nat.le_trans h.len (by omega), hq⟩
theorem Eok.em : Eok .em := ⟨sz0.mono (by decide), trivial, by show 1 ≤ 1; omega, by show emT.length ≤ 20000; decide +kernel⟩
theorem Eok.sl (s : Str) (h : (reprText s).length ≤ 100) : Eok (.str s) := ⟨sz0.mono (by decide), by show (reprText s).length ≤ 20000; omega, by show 0 ≤ 1; omega, by show (reprText s).length ≤ 20000; omega⟩
theorem mem_rep {α : Type} {n : Nat} {x d : α} (h : d ∈ (List.replicate n [x]).flatten) : d = x := by
  obtain ⟨l, hl, hd⟩ := List.mem_flatten.mp h
  rw [(List.mem_replicate.mp hl).2] at hd
  exact List.mem_singleton.mp hd
theorem len_rep {α : Type} {x : α} : ∀ n : Nat, (List.replicate n [x]).flatten.length = n
  | 0 => rfl
  | n + 1 => by rw [List.replicate_succ, List.flatten_cons, List.length_append, len_rep n]; show 1 + n = n + 1; omega
abbrev repD (n : Nat) (d : Dv) : Dv := .lst (List.replicate n [d]).flatten
theorem Rok.rep {n : Nat} {d : Dv} (h : Eok d) (hn : n ≤ 7) : Rok (repD n d) := (Rok.of (fun x hx => by rw [mem_rep hx]; exact h) (by rw [len_rep]; exact hn)).1
theorem Vok.rep {n : Nat} {d : Dv} (h : Rok d) (hn : n ≤ 7) : Vok (repD n d) := (Vok.of (fun x hx => by rw [mem_rep hx]; exact h) (by rw [len_rep]; exact hn)).1
def V0 (n m : Nat) (ev : List (List Rat)) : List Dv := [.non, .int 0, .bl true, .str "", .lst [], .tup [], .em, qss ev, .lst [.lst [.int 1]], .lst [.lst [.bl true]], repD n (.bl true), repD n (repD m (.int 0)), repD n .non, repD n (.lst []), repD n (.str "1")]
theorem v0_ok {n m k : Nat} {ev : List (List Rat)} (hn : n ≤ 4) (hm : m ≤ 4) (he : Mz k ev) (hk : k ≤ 2000) : ∀ d ∈ V0 n m ev, Vok d := fun d hd => by
  have r0 : Rok (.lst []) := (Rok.of (l := []) (fun d h => by simp at h) (by decide)).1
  have s1 : (reprText ("1" : Str)).length ≤ 100 := by decide +kernel
  have s0 : (reprText ("" : Str)).length ≤ 100 := by decide +kernel
  simp only [V0, List.mem_cons, List.not_mem_nil, or_false] at hd
  rcases hd with rfl | rfl | rfl | rfl | rfl | rfl | rfl | rfl | rfl | rfl | rfl | rfl | rfl | rfl | rfl
  · exact .leaf (.leaf .non rfl) rfl fun r e => by cases e
  · exact .leaf (.leaf (.i (by decide)) rfl) rfl fun r e => by cases e
  · exact .leaf (.leaf (.b _) rfl) rfl fun r e => by cases e
  · exact .leaf (.leaf (.sl _ s0) rfl) rfl fun r e => by cases e
  · exact (Vok.of (l := []) (fun d h => by simp at h) (by decide)).1
  · exact (Vok.of (l := []) (fun d h => by simp at h) (by decide)).2
  · exact .leaf (.leaf .em rfl) rfl fun r e => by cases e
  · exact he.vok hk
  · exact (Vok.of (l := [_]) (fun d h => by rw [List.mem_singleton.mp h]; exact (Rok.of (l := [_]) (fun d h => by rw [List.mem_singleton.mp h]; exact .i (by decide)) (by show 1 ≤ 7; omega)).1) (by show 1 ≤ 7; omega)).1
  · exact (Vok.of (l := [_]) (fun d h => by rw [List.mem_singleton.mp h]; exact (Rok.of (l := [_]) (fun d h => by rw [List.mem_singleton.mp h]; exact .b _) (by show 1 ≤ 7; omega)).1) (by show 1 ≤ 7; omega)).1
  · exact .rep (.leaf (.b _) rfl) (by omega)
  · exact .rep (.rep (.i (by decide)) (by omega)) (by omega)
  · exact .rep (.leaf .non rfl) (by omega)
  · exact .rep r0 (by omega)
  · exact .rep (.leaf (.sl _ s1) rfl) (by omega)
structure VsOk (n : Nat) (l : List Dv) : Prop where
  ln : l.length ≤ n
  v : ∀ d ∈ l, Vok d
abbrev IsVs (C : Addr) (n : Nat) : List V → Hp → Prop := SomM (VsOk n) (LsOf (IsDv C))
theorem app_vs {C : Addr} {n : Nat} : ∀ vs v F, Up (IsVs C n) vs F → Up (Som Vok (IsDv C)) v F → Up (IsVs C (n + 1)) (vs ++ [v]) F := fun vs v F a b => by
  obtain ⟨l, hl, q⟩ := a.here
  obtain ⟨d, hd, r⟩ := b.here
  exact fun F' e' => ⟨l ++ [d], ⟨by rw [List.length_append]; have := hl.ln; show _ + 1 ≤ _; omega, fun x hx => (List.mem_append.mp hx).elim (hl.v x) fun h => by rw [List.mem_singleton.mp h]; exact hd⟩, (q.snoc ((mo_dv d).up r)).up F' e'⟩
theorem app_ln {C : Addr} {n : Nat} (hn : n < 1000) : ∀ vs F, IsVs C n vs F → vs.length < sizeLine := fun vs F ⟨l, hl, q⟩ => by
  rw [← q.len]
  have := hl.ln
  exact line_of (m := 1000) (by omega)
def midL (M ev : List (List Rat)) : List (List Rat) := (M.zip ev).map fun q => (q.1.zip q.2).map fun z => (z.1 + z.2) * Rat.divInt 1 2
theorem szc2 : Sz 2 (Rat.divInt 1 2) := ⟨by decide +kernel, by decide +kernel⟩
theorem mid_ok {M ev : List (List Rat)} (hM : Mz 1550 M) (he : Mz 100 ev) : Vok (qss (midL M ev)) := (Vok.of (fun d hd => by
  obtain ⟨r, hr, rfl⟩ := List.mem_map.mp hd
  obtain ⟨q, hq, rfl⟩ := List.mem_map.mp hr
  obtain ⟨m1, m2⟩ := List.of_mem_zip hq
  obtain ⟨_, a1, a2⟩ := hM.r _ m1
  obtain ⟨_, _, b2⟩ := he.r _ m2
  refine Rok.qs (fun x hx => ?_) (by rw [List.length_map, List.length_zip]; omega)
  obtain ⟨z, hz, rfl⟩ := List.mem_map.mp hx
  obtain ⟨c1, c2⟩ := List.of_mem_zip hz
  exact (((a2 _ c1).add (b2 _ c2)).mul szc2).mono (by decide)) (by rw [List.length_map]; unfold midL; rw [List.length_map, List.length_zip]; have := hM.l; omega)).1
theorem ev_mz {g o : LGu} (hg : GOk g) (ho : GOk o) (g4 : g.length ≤ 4) (o4 : o.length ≤ 4) : Mz 100 (g.map fun _ => o.map fun p => p.1) := by
  have gn : g ≠ [] := fun h => by have := hg.gp.lo; rw [h] at this; exact absurd this (by decide)
  have on : o ≠ [] := fun h => by have := ho.gp.lo; rw [h] at this; exact absurd this (by decide)
  refine ⟨by simpa using gn, by rw [List.length_map]; exact g4, fun r hr => ?_⟩
  obtain ⟨p, _, rfl⟩ := List.mem_map.mp hr
  refine ⟨by simpa using on, by rw [List.length_map]; exact o4, fun x hx => ?_⟩
  obtain ⟨q, hq, rfl⟩ := List.mem_map.mp hx
  exact (ho.sl.z q hq).1
theorem GOk.szm {g : LGu} (h : GOk g) (h4 : g.length ≤ 4) : SzM g := ⟨h4, h.sl.z⟩
theorem map_rep {M : List (List Rat)} {n m : Nat} (h1 : M.length = n) (h2 : ∀ r ∈ M, r.length = m) : (M.map fun r => ((r.length : Nat) : Int)) = (List.replicate n [((m : Nat) : Int)]).flatten := by
  subst h1
  induction M with
  | nil => rfl
  | cons r M ih =>
    rw [List.map_cons, List.length_cons, List.replicate_succ, List.flatten_cons, ih fun r hr => h2 r (by simp [hr]), h2 r (by simp)]
    rfl
theorem out_ok {r : List Rat} {o : LGu} {m : Rat} {n k : Nat} (h : OutP r o m n k) : Rok (qs (outR r o m)) := Rok.qs h.sz.1 (by have := h.sz.2; omega)
theorem outs_ok {M L : List (List Rat)} {n : Nat} {ds : List (List Rat)} (hM : Mz n M) (hn : n ≤ 2000) (h : ∀ r ∈ ds, Rok (qs r)) (hL : ∀ r ∈ L, r ∈ M) (hl : ds.length + L.length ≤ 7) : Vok (qss (ds ++ L)) := (Vok.of (fun d hd => by
  obtain ⟨r, hr, rfl⟩ := List.mem_map.mp hd
  exact (List.mem_append.mp hr).elim (h r) fun h' => (hM.rok hn r (hL r h')).1) (by rw [List.length_map, List.length_append]; exact hl)).1
end Gw
/-! Plain: a denominator and a numerator at most. -/
namespace Gw
def Qd (d N : Nat) (x : Rat) : Prop := ∃ t : Int, x * ((d : Nat) : Rat) = ((t : Int) : Rat) ∧ t.natAbs ≤ N
section
variable {d e N M : Nat} {x y : Rat}
theorem Qd.le (h : Qd d N x) (k : N ≤ M) : Qd d M x := let ⟨t, a, b⟩ := h; ⟨t, a, Nat.le_trans b k⟩
theorem Qd.eq (h : Qd d N x) (k : d = e) : Qd e N x := by rw [← k]; exact h
theorem Qd.add (h : Qd d N x) (k : Qd d M y) : Qd d (N + M) (x + y) := by
  obtain ⟨t, a, b⟩ := h
  obtain ⟨s, c, f⟩ := k
  exact ⟨t + s, by rw [Rat.intCast_add, ← a, ← c]; grind, by omega⟩
theorem Qd.sub (h : Qd d N x) (k : Qd d M y) : Qd d (N + M) (x - y) := by
  obtain ⟨t, a, b⟩ := h
  obtain ⟨s, c, f⟩ := k
  exact ⟨t - s, by rw [Rat.intCast_sub, ← a, ← c]; grind, by omega⟩
theorem Qd.mul (h : Qd d N x) (k : Qd e M y) : Qd (d * e) (N * M) (x * y) := by
  obtain ⟨t, a, b⟩ := h
  obtain ⟨s, c, f⟩ := k
  refine ⟨t * s, by rw [Rat.intCast_mul, Rat.natCast_mul, ← a, ← c]; grind, ?_⟩
  rw [Int.natAbs_mul]
  exact Nat.mul_le_mul b f
theorem Qd.up (h : Qd d N x) (k : Nat) : Qd (d * k) (N * k) x := by
  obtain ⟨t, a, b⟩ := h
  refine ⟨t * k, ?_, ?_⟩
  · rw [Rat.natCast_mul, ← Rat.mul_assoc, a, Rat.intCast_mul]
    rfl
  · rw [Int.natAbs_mul, Int.natAbs_natCast]
    exact Nat.mul_le_mul_right _ b
theorem qd_0 : Qd d N 0 := ⟨0, by grind, by simp⟩
theorem qd_nat {k : Nat} : Qd 1 k ((k : Nat) : Rat) := ⟨(k : Int), by show ((k : Nat) : Rat) * 1 = ((k : Nat) : Rat); grind, by simp⟩
theorem Qd.S {α : Type} {l : List α} {f : α → Rat} (h : ∀ a ∈ l, Qd d N (f a)) : Qd d (l.length * N) (S l f) := by
  induction l with
  | nil => rw [S_nil]; exact qd_0
  | cons a l ih =>
    rw [S_cons, List.length_cons, Nat.succ_mul, Nat.add_comm]
    exact (h a (by simp)).add (ih fun b hb => h b (by simp [hb]))
/-- the value is between 0 and B -/
theorem Qd.in01 {B : Nat} (h : Qd d N x) (h0 : 0 ≤ x) (h1 : x ≤ ((B : Nat) : Rat)) : Qd d (B * d) x := by
  obtain ⟨t, a, b⟩ := h
  refine ⟨t, a, ?_⟩
  have p : (0 : Rat) ≤ ((d : Nat) : Rat) := Rat.natCast_nonneg
  have m1 := Rat.mul_nonneg h0 p
  have m2 := Rat.mul_nonneg (show 0 ≤ ((B : Nat) : Rat) - x by grind) p
  rw [a] at m1
  have e2 : ((t : Int) : Rat) ≤ ((((B * d : Nat) : Int)) : Rat) := by
    have : (((B * d : Nat) : Int) : Rat) = ((B : Nat) : Rat) * ((d : Nat) : Rat) := by rw [← Rat.natCast_mul]; rfl
    rw [this, ← a]
    grind
  have e1 : (((0 : Int)) : Rat) ≤ ((t : Int) : Rat) := m1
  have i1 := Rat.intCast_le_intCast.mp e1
  have i2 := Rat.intCast_le_intCast.mp e2
  omega
theorem Qd.sz {n : Nat} (h : Qd d N x) (hd : 0 < d) (h1 : d < 2 ^ n) (h2 : N < 2 ^ n) : Sz n x := by
  obtain ⟨t, a, b⟩ := h
  have hz : ((d : Nat) : Rat) ≠ 0 := by rw [Ne, Rat.natCast_eq_zero_iff]; omega
  have e : x = Rat.divInt t (d : Int) := by
    rw [Rat.divInt_eq_div, ← a]
    show x = x * ((d : Nat) : Rat) / ((d : Nat) : Rat)
    rw [Rat.div_def, Rat.mul_assoc, Rat.mul_inv_cancel _ hz, Rat.mul_one]
  have hd' : (d : Int) ≠ 0 := by omega
  have n1 := num_le t (d : Int) hd'
  have n2 := den_le t (d : Int) hd'
  rw [e]
  exact ⟨by omega, by rw [Int.natAbs_natCast] at n2; omega⟩
theorem Qd.div (h : Qd d N x) (k : Qd d M y) (hd : 0 < d) (hy : y ≠ 0) : ∃ Y, 0 < Y ∧ Y ≤ M ∧ Qd Y N (x / y) := by
  obtain ⟨t, a, b⟩ := h
  obtain ⟨s, c, f⟩ := k
  have hz : ((d : Nat) : Rat) ≠ 0 := by rw [Ne, Rat.natCast_eq_zero_iff]; omega
  have hs : s ≠ 0 := fun e => by
    rw [e] at c
    have c2 : y * ((d : Nat) : Rat) = 0 := c
    rcases Rat.mul_eq_zero.mp c2 with q | q
    · exact hy q
    · exact hz q
  have e0 : x / y * ((s : Int) : Rat) = ((t : Int) : Rat) := by
    rw [← c, ← a, ← Rat.mul_assoc, Rat.div_mul_cancel hy]
  refine ⟨s.natAbs, by omega, f, ?_⟩
  rcases Int.le_total 0 s with q | q
  · refine ⟨t, ?_, b⟩
    have : ((s.natAbs : Nat) : Rat) = ((s : Int) : Rat) := by
      have e : ((s.natAbs : Nat) : Int) = s := by omega
      show (((s.natAbs : Nat) : Int) : Rat) = _
      rw [e]
    rw [this, e0]
  · refine ⟨-t, ?_, by omega⟩
    have : ((s.natAbs : Nat) : Rat) = -((s : Int) : Rat) := by
      have e : ((s.natAbs : Nat) : Int) = -s := by omega
      show (((s.natAbs : Nat) : Int) : Rat) = _
      rw [e, Rat.intCast_neg]
    rw [this, Rat.intCast_neg, ← e0]
    grind
theorem Sz.div {n m : Nat} {q r : Rat} (h : Sz n q) (k : Sz m r) (hr : r ≠ 0) : Sz (n + m) (q / r) := by
  have hn : r.num ≠ 0 := fun e => hr (Rat.num_eq_zero.mp e)
  have hb : (q.den : Int) * r.num ≠ 0 := Int.mul_ne_zero (q_den0 q) hn
  have a1 : q.num.natAbs * r.den < 2 ^ n * 2 ^ m := Nat.mul_lt_mul'' h.1 k.2
  have a3 : q.den * r.num.natAbs < 2 ^ n * 2 ^ m := Nat.mul_lt_mul'' h.2 k.1
  rw [← q_over]
  constructor
  · refine Nat.lt_of_le_of_lt (num_le _ _ hb) ?_
    rw [Int.natAbs_mul, Nat.pow_add, Int.natAbs_natCast]
    exact a1
  · refine Nat.lt_of_le_of_lt (den_le _ _ hb) ?_
    rw [Int.natAbs_mul, Nat.pow_add]
    simp only [Int.natAbs_natCast]
    exact a3
end
end Gw
set_option maxHeartbeats 1000000
namespace Gw
open PySem PySem.Spec PyProof.Rows L2
theorem l_em {C : Addr} : ∀ v F, TupOf (Args []) v F → IsDv C (.tup []) v F := fun v F h => t_dv v F (tupv_to (fun vs F a => by cases a; exact .nil) v F h)
section
variable {P : Program} {w : World} {K : PySem.W.Frag} {mg : Str → Option Value} {base : Heap} {C : Addr}
abbrev KwIs (P : Program) (w : World) (K : PySem.W.Frag) (mg : Str → Option Value) (base : Heap) (C : Addr) : Prop := KnK P w K mg base "is_splitting" 10 ["guess", "other", "value"] (sp_is_splitting__D C) 0 ["value", "guess", "other"] (fun _ ws => [ws.getD 1 .non, ws.getD 2 .non, ws.getD 0 .non])
abbrev KwIh (P : Program) (w : World) (K : PySem.W.Frag) (mg : Str → Option Value) (base : Heap) (C : Addr) : Prop := KnK P w K mg base "is_hinge" 12 ["guess", "other", "value"] (sp_is_hinge__D C) 0 ["value", "other", "guess"] (fun _ ws => [ws.getD 2 .non, ws.getD 1 .non, ws.getD 0 .non])
abbrev sp__law_splittings_right (C : Addr) : Sp := PrP (ι := LGu × LGu) (fun w => [IsLg C w.1, IsLg C w.2]) (fun w => TwoP w.1 w.2) (fun _ => IsB true)
abbrev Kn__law_splittings_right (P : Program) (w : World) (K : PySem.W.Frag) (mg : Str → Option Value) (base : Heap) (C : Addr) : Prop := KnG P w K mg base "_law_splittings_right" 16 ["pot", "guess", "other"] (sp__law_splittings_right C)
theorem ok__law_splittings_right (Z : Glo K mg C) (T : RepF P w K mg base C 2 Wd repS) (mk : Mkr P w K mg base C 2) (oadd : Opr P w K mg base C .Add 6 (fun w => Fits w.1 w.2) (· + ·)) (omul : Opr P w K mg base C .Mult 6 (fun w => Fits w.1 w.2) (· * ·)) (mover : MethK P w K mg base C "over" 6 ["self", "other"] (sp_Rover C)) (oneg : NegK P w K mg base C 4 fun q : Rat => q.den<2^9000) (kws : KwIs P w K mg base C) (k__law_has_hinge : Kn__law_has_hinge P w K mg base C) (k__law_handed : Kn__law_handed P w K mg base C) (k_splitting : Kn_splitting P w K mg base C) (k__law_even : Kn__law_even P w K mg base C) (k_is_splitting__D : Kn_is_splitting__D P w K mg base C) (k__law_is_splitting : Kn__law_is_splitting P w K mg base C) (k__law_out : Kn__law_out P w K mg base C) (k__law_bent : Kn__law_bent P w K mg base C) (k__law_draw : Kn__law_draw P w K mg base C) {f : Addr} {fd : FuncData} (Fd : FnP K "_law_splittings_right" st__law_splittings_right f fd) : FnG P w K mg base CX0 16 f fd ["pot", "guess", "other"] (sp__law_splittings_right C) := by
  refine fnG_prP Fd sc__law_splittings_right (fun u => by first | rfl | (cases u <;> rfl)) (by decide) (fun X u E hX hG hp => ?_)
  obtain ⟨cdv, A, outer, s, H, E', rfl, hr⟩ := hX
  refine PSs.nox ?_
  have nd := (sc__law_splittings_right).nd
  replace hr : Room 15 (cxOf CX0 P w K mg base N__law_splittings_right "_law_splittings_right" (defScope st__law_splittings_right) f cdv A outer s H E').nox.A := hr
  obtain ⟨g, o⟩ := u
  have hp : TwoP g o := hp
  obtain ⟨g1, o1, gl, ol, oi, gn, due, sp⟩ := id hp
  obtain ⟨ev, hev⟩ : ∃ ev, ev = g.map fun _ => o.map fun p => p.1 := ⟨_, rfl⟩
  have hez : Mz 100 ev := by rw [hev]; exact ev_mz g1 o1 gl ol
  have gM := g1.szm gl
  have oM := o1.szm ol
  refine js_seq (js_par (i := 3) (j := 4) (Ra := IsHg C g) (Rb := IsHg C o) (ps_par (i := 3) (j := 4) rfl nd rfl rfl (by decide) rfl rfl (pa_cons (jc k__law_handed (hr.mono (by decide)) g (ja_cons (jv 1) ja_nil) g1.sl) (pa_cons (jc k__law_handed (hr.mono (by decide)) o (ja_cons (jv 2) ja_nil) o1.sl) pa_nil)) rfl)) ?_
  refine js_seq (js_par (i := 5) (j := 6) (Ra := IsOM C (splO (scG g) (scG o))) (Rb := IsL (IsL (IsQ C)) ev) (ps_par (i := 5) (j := 6) rfl nd rfl rfl (by decide) rfl rfl (pa_cons (jc k_splitting (hr.mono (by decide)) (scG g, scG o) (ja_cons (je_conv (jv 3 (R := IsHg C g)) hg_sg) (ja_cons (je_conv (jv 4 (R := IsHg C o)) hg_sg) ja_nil)) ⟨g1.gp, o1.gp, fun h => (sp h).1⟩) (pa_cons (je_eq (jc k__law_even (hr.mono (by decide)) (g, o) (ja_cons (jv 1) (ja_cons (jv 2) ja_nil)) ⟨by show g.length ≤ 100; omega, by show o.length ≤ 100; omega⟩) (by rw [hev])) pa_nil)) rfl)) ?_
  refine js_seq (js_setM (i := 7) (Rm := LsOf (IsDv C) (V0 g.length o.length ev)) (ps_set (i := 7) nd rfl (.inl rfl) (jm_ls (R := IsDv C) (V0 g.length o.length ev) (jm_lst (pe_lst (ja_cons (je_conv jNon (fun v F h => h)) (ja_cons (je_conv jI (fun v F h => h)) (ja_cons (je_conv jBl (fun v F h => h)) (ja_cons (je_conv jS (fun v F h => h)) (ja_cons (je_conv (je_m (jm_ls (R := IsDv C) ([] : List Dv) (jm_lst (pe_lst ja_nil)))) l_dv) (ja_cons (je_conv (je_tup (pe_tup ja_nil)) l_em) (ja_cons (je_conv je_em (fun v F h => h)) (ja_cons (je_conv (jv 6 (R := IsL (IsL (IsQ C)) ev)) l_qss) (ja_cons (je_conv (je_m (jm_ls (R := IsDv C) [.lst [.int 1]] (jm_lst (pe_lst (ja_cons (je_conv (je_m (jm_ls (R := IsDv C) [.int 1] (jm_lst (pe_lst (ja_cons (je_conv jI (fun v F h => h)) ja_nil))))) l_dv) ja_nil))))) l_dv) (ja_cons (je_conv (je_m (jm_ls (R := IsDv C) [.lst [.bl true]] (jm_lst (pe_lst (ja_cons (je_conv (je_m (jm_ls (R := IsDv C) [.bl true] (jm_lst (pe_lst (ja_cons (je_conv jBl (fun v F h => h)) ja_nil))))) l_dv) ja_nil))))) l_dv) (ja_cons (je_conv (je_m (jm_op (pe_op op_rep (je_m (jm_ls (R := IsDv C) [.bl true] (jm_lst (pe_lst (ja_cons (je_conv jBl (fun v F h => h)) ja_nil))))) (jbB call_len Z.len boot_len (ja_cons (jv 3 (R := IsHg C g)) ja_nil) rc_len)) (rop_rep (by show 1 * _ ≤ _; omega) (by omega)))) l_dv) (ja_cons (je_conv (je_m (jm_op (pe_op op_rep (je_m (jm_ls (R := IsDv C) [repD o.length (.int 0)] (jm_lst (pe_lst (ja_cons (je_conv (je_m (jm_op (pe_op op_rep (je_m (jm_ls (R := IsDv C) [.int 0] (jm_lst (pe_lst (ja_cons (je_conv jI (fun v F h => h)) ja_nil))))) (jbB call_len Z.len boot_len (ja_cons (jv 4 (R := IsHg C o)) ja_nil) rc_len)) (rop_rep (by show 1 * _ ≤ _; omega) (by omega)))) l_dv) ja_nil))))) (jbB call_len Z.len boot_len (ja_cons (jv 3 (R := IsHg C g)) ja_nil) rc_len)) (rop_rep (by show 1 * _ ≤ _; omega) (by omega)))) l_dv) (ja_cons (je_conv (je_m (jm_op (pe_op op_rep (je_m (jm_ls (R := IsDv C) [.non] (jm_lst (pe_lst (ja_cons (je_conv jNon (fun v F h => h)) ja_nil))))) (jbB call_len Z.len boot_len (ja_cons (jv 3 (R := IsHg C g)) ja_nil) rc_len)) (rop_rep (by show 1 * _ ≤ _; omega) (by omega)))) l_dv) (ja_cons (je_conv (je_m (jm_op (pe_op op_rep (je_m (jm_ls (R := IsDv C) [.lst []] (jm_lst (pe_lst (ja_cons (je_conv (je_m (jm_ls (R := IsDv C) ([] : List Dv) (jm_lst (pe_lst ja_nil)))) l_dv) ja_nil))))) (jbB call_len Z.len boot_len (ja_cons (jv 3 (R := IsHg C g)) ja_nil) rc_len)) (rop_rep (by show 1 * _ ≤ _; omega) (by omega)))) l_dv) (ja_cons (je_conv (je_m (jm_op (pe_op op_rep (je_m (jm_ls (R := IsDv C) [.str "1"] (jm_lst (pe_lst (ja_cons (je_conv jS (fun v F h => h)) ja_nil))))) (jbB call_len Z.len boot_len (ja_cons (jv 3 (R := IsHg C g)) ja_nil) rc_len)) (rop_rep (by show 1 * _ ≤ _; omega) (by omega)))) l_dv) ja_nil)))))))))))))))))))) ?_
  refine js_frz (i := 7) rfl ?_
  have hv0 := v0_ok (n := g.length) (m := o.length) gl ol hez (by decide)
  refine js_seq (js_parMF (i := 7) (j := 8) (Rm := IsVs C 15) (Rb := IsL (IsL (IsQ C)) ev) (by decide) (ps_par (i := 7) (j := 8) rfl nd rfl rfl (by decide) rfl rfl (pa_cons (jm_conv (jm_sliceSO (P := fun d => d < 3) (by decide) (pe_sliceS (jv 7 (R := IsL (IsDv C) (V0 g.length o.length ev))) (jo_someS (jcP k__law_draw (hr.mono (by decide)) ⟨0, rfl⟩ 3 (ja_pot (pv 0) rfl (ja_cons jI ja_nil)) ⟨by decide, by decide⟩)) jo_none (jo_some jI))) (fun vs F ⟨d, _, l⟩ => ⟨_, ⟨pkL_len _ _ _ _, fun x hx => hv0 x (pkL_mem x hx)⟩, l⟩)) (pa_cons (jv 6) pa_nil)) rfl)) ?_
  refine js_seq (G1 := [.pot, .fz (IsLg C g), .fz (IsLg C o), .fz (IsHg C g), .fz (IsHg C o), .fz (IsOM C (splO (scG g) (scG o))), .fz (IsL (IsL (IsQ C)) ev), .mt (IsVs C 15), .fz (IsL (IsL (IsQ C)) ev), .un, .un, .un, .un, .un, .un, .un, .un]) (js_if (b1 := false) (jt_eq (jt_cmp (pt_cmpR op_eq (je_op (pe_cmpR op_notN (jv 5 (R := IsOM C (splO (scG g) (scG o)))) jNon (nomark _)) (rop_notN (b := !laH g o) (fun v F h => ?_))) (jc k__law_has_hinge (hr.mono (by decide)) (g, o) (ja_cons (jv 1) (ja_cons (jv 2) ja_nil)) ⟨g1.sl, o1.sl⟩) (nomark _)) rop_eqB) (by cases laH g o <;> rfl)) (fun h => nomatch h) (fun _ => js_nil rfl)) ?_
  · rw [← due]
    revert h
    unfold splO
    cases hgO (scG g) (scG o) with
    | none => intro h; obtain ⟨a, vs, rfl, _⟩ := (show IsL _ _ v F from h); rfl
    | some q => intro h; rw [show v = V.non from h]; rfl
  refine js_cons (N1 := fun G => ∃ B n s5, Mz 1550 B ∧ n ≤ 18 ∧ G = [.pot, .fz (IsLg C g), .fz (IsLg C o), .fz (IsHg C g), .fz (IsHg C o), s5, .fz (IsL (IsL (IsQ C)) ev), .mt (IsVs C n), .fz (IsL (IsL (IsQ C)) B), .un, .un, .un, .un, .un, .un, .un, .un]) ?_ ?_
  · cases hq : hgO (scG g) (scG o) with
    | some q =>
      have hO : splO (scG g) (scG o) = none := by unfold splO; rw [hq]
      rw [hO]
      exact js_if (b1 := false) (jt_cmp (pt_cmpR op_notN (jv 5 (R := IsN)) jNon (nomark _)) (rop_notN (b := false) (fun v F h => by rw [show v = V.non from h]; rfl))) (fun h => nomatch h) (fun _ => js_nil ⟨ev, 15, _, ⟨hez.ne, hez.l, fun r hr => ⟨(hez.r r hr).1, (hez.r r hr).2.1, fun x hx => ((hez.r r hr).2.2 x hx).mono (by decide)⟩⟩, by decide, rfl⟩)
    | none =>
      obtain ⟨_, sL, s0⟩ := sp hq
      have hO : splO (scG g) (scG o) = some (splL (scG o) (scG g) ((scG o).map fun p => p.1)) := by unfold splO; rw [hq]
      rw [hO]
      obtain ⟨M, hM⟩ : ∃ M, M = splL (scG o) (scG g) ((scG o).map fun p => p.1) := ⟨_, rfl⟩
      rw [← hM] at sL s0 ⊢
      have gne : 0 < g.length := by have := g1.gp.lo; unfold scG at this; rwa [List.length_map] at this
      have one : 0 < o.length := by have := o1.gp.lo; unfold scG at this; rwa [List.length_map] at this
      have ml : M.length = g.length := sL.l
      have hMz : Mz 1550 M := ⟨fun h => by rw [h] at ml; simp at ml; omega, by omega, fun r hr => ⟨fun h => by have := sL.rl r hr; rw [h] at this; simp at this; omega, by rw [sL.rl r hr]; exact ol, sL.sz r hr⟩⟩
      have m0 : M[0]? = some M[0]! := by rw [getElem!_pos M 0 (by omega), List.getElem?_eq_getElem (by omega)]
      have mem0 : M[0]! ∈ M := List.mem_of_getElem? m0
      have r0 := s0 _ m0
      have rl0 := sL.rl _ mem0
      have hoz : ∀ p ∈ o, p.2 < 2 ^ 20 := fun p hp => (o1.sl.z p hp).2
      have drM : ∀ k, ∀ r ∈ M.drop k, r ∈ M := fun k r hr => List.mem_of_mem_drop hr
      refine js_if (b1 := true) (jt_cmp (pt_cmpR op_notN (jv 5 (R := IsL (IsL (IsQ C)) M)) jNon (nomark _)) (rop_notN (b := true) (fun v F h => by obtain ⟨a, vs, rfl, _⟩ := (show IsL _ _ v F from h); rfl))) (fun _ => ?_) (fun h => nomatch h)
      refine js_seq (G1 := [.pot, .fz (IsLg C g), .fz (IsLg C o), .fz (IsHg C g), .fz (IsHg C o), .fz (IsL (IsL (IsQ C)) M), .fz (IsL (IsL (IsQ C)) ev), .mt (IsVs C 15), .fz (IsL (IsL (IsQ C)) ev), .un, .un, .un, .un, .un, .un, .un, .un]) (js_if (b1 := false) (jt_cmp (pt_cmpR (op_neD hr.units) (je_m (jlc (Ry := IsI) (fun r : List Rat => ((r.length : Nat) : Int)) [("row", 15)] nd (ji_list (Rx := IsL (IsQ C)) (xs := M) (pi_list (jv 5))) (fun s H C' cl fp x => jg1 15 nd) (fun s H C' cl fp x hx => jbB call_len Z.len boot_len (ja_cons (jv 15 (R := IsL (IsQ C) x)) ja_nil) rc_len) (line_of (m := 1000) (by omega)))) (je_eq (je_m (jm_op (pe_op op_rep (je_m (jm_ls (R := IsI) [((o.length : Nat) : Int)] (jm_lst (pe_lst (ja_cons (jbB call_len Z.len boot_len (ja_cons (jv 4 (R := IsHg C o)) ja_nil) rc_len) ja_nil))))) (jbB call_len Z.len boot_len (ja_cons (jv 3 (R := IsHg C g)) ja_nil) rc_len)) (rop_rep (by show 1 * _ ≤ _; omega) (by omega)))) (by rw [← map_rep ml sL.rl])) (nomark _)) rop_neLI) (fun h => nomatch h) (fun _ => js_nil rfl)) ?_
      refine js_seq (js_set (i := 8) (R := IsL (IsL (IsQ C)) M) (ps_set (i := 8) nd rfl (.inl rfl) (jv 5))) ?_
      refine js_seq (js_append (i := 7) (R := Som Vok (IsDv C)) (Rm' := IsVs C 16) (ps_expr (pe_bm PySem.F.plainAttrs_list PySem.F.slot_list_append PySem.F.type_list_append mt_append (pv 7) (pa_cons (je_conv (je_m (jlc (Ry := IsL (IsQ C)) (fun q : List Rat × List Rat => (q.1.zip q.2).map fun z => (z.1 + z.2) * Rat.divInt 1 2) [("left", 12), ("right", 14)] nd (ji_zip (Rx := IsL (IsQ C)) (Ry := IsL (IsQ C)) (xs := M) (ys := ev) (pi_zip rfl Z.zip (ja_cons (jv 5) (ja_cons (jv 6) ja_nil)))) (fun s H C' cl fp x => jg2 12 14 nd) (fun s H C' cl fp x hx => je_m (jlc (Ry := IsQ C) (fun z : Rat × Rat => (z.1 + z.2) * Rat.divInt 1 2) [("one", 13), ("two", 16)] nd (ji_zip (Rx := IsQ C) (Ry := IsQ C) (xs := x.1) (ys := x.2) (pi_zip rfl Z.zip (ja_cons (jv 12) (ja_cons (jv 14) ja_nil)))) (fun s H C' cl fp x => jg2 13 16 nd) (fun s H C' cl fp z hz => joQ (q := z.1 + z.2) omul (hr.mono (by decide)) (joQ (q := z.1) (r := z.2) oadd (hr.mono (by decide)) (jv 13) (jv 16) (((hMz.r _ (List.of_mem_zip hx).1).2.2 _ (List.of_mem_zip hz).1).fits ((hez.r _ (List.of_mem_zip hx).2).2.2 _ (List.of_mem_zip hz).2) (by decide))) (jmk2 mk (hr.mono (by decide)) (ja_cons jI (ja_cons jI ja_nil)) ⟨by decide, by decide⟩) ((((hMz.r _ (List.of_mem_zip hx).1).2.2 _ (List.of_mem_zip hz).1).add ((hez.r _ (List.of_mem_zip hx).2).2.2 _ (List.of_mem_zip hz).2)).fits szc2 (by decide))) (line_of (m := 1000) (by rw [List.length_zip]; have := (hMz.r _ (List.of_mem_zip hx).1).2.1; omega)))) (line_of (m := 1000) (by rw [List.length_zip]; omega)))) (fun v F h => ⟨qss (midL M ev), mid_ok hMz hez, l_qss v F h⟩)) pa_nil)) rfl) rfl app_vs (app_ln (by decide))) ?_
      refine js_cons (N1 := fun G => ∃ n, n ≤ 17 ∧ G = [.pot, .fz (IsLg C g), .fz (IsLg C o), .fz (IsHg C g), .fz (IsHg C o), .fz (IsL (IsL (IsQ C)) M), .fz (IsL (IsL (IsQ C)) ev), .mt (IsVs C n), .fz (IsL (IsL (IsQ C)) M), .un, .un, .un, .un, .un, .un, .un, .un]) (js_if (b1 := decide (2 < o.length)) (jt_eq (jt_cmp (pt_cmpR op_gt (jbB call_len Z.len boot_len (ja_cons (jv 4 (R := IsHg C o)) ja_nil) rc_len) jI (nomark _)) rop_gt) (by rw [decide_eq_decide]; omega)) (fun hb => ?_) (fun hb => js_nil ⟨16, by decide, rfl⟩)) ?_
      · have h2 := of_decide_eq_true hb
        have lt02 : (o[0]!).2 < (o[2]!).2 := by
          have := List.pairwise_iff_getElem.mp oi 0 2 (by omega) (by omega) (by omega)
          rwa [getElem!_pos o 0 (by omega), getElem!_pos o 2 (by omega)]
        obtain ⟨d, hd⟩ : ∃ d : Int, d = ((o[2]!).2 : Int) - ((o[0]!).2 : Int) := ⟨_, rfl⟩
        have b2 : (o[2]!).2 < 2 ^ 20 := by rw [getElem!_pos o 2 (by omega)]; exact hoz _ (List.getElem_mem _)
        have dz : Sz 22 ((d : Int) : Rat) := Sz.int (by decide) (by omega)
        have dn : ((d : Int) : Rat) ≠ 0 := by
          intro h
          have : d = 0 := by exact_mod_cast h
          omega
        have x1 : Sz 500 (M[0]!)[1]! := r0 _ (by rw [getElem!_pos (M[0]!) 1 (by omega)]; exact List.getElem_mem _)
        have hOut : OutP M[0]! o ((M[0]!)[1]! / ((d : Int) : Rat)) 500 522 := ⟨by omega, by omega, by omega, hoz, r0, x1.div dz dn, by decide⟩
        refine js_one (js_N (js_append (i := 7) (R := Som Vok (IsDv C)) (Rm' := IsVs C 17) (ps_expr (pe_bm PySem.F.plainAttrs_list PySem.F.slot_list_append PySem.F.type_list_append mt_append (pv 7) (pa_cons (je_conv (je_m (jm_op (pe_op op_cat (je_m (jm_ls (R := IsL (IsQ C)) [outR M[0]! o ((M[0]!)[1]! / ((d : Int) : Rat))] (jm_lst (pe_lst (ja_cons (jc k__law_out (hr.mono (by decide)) (M[0]!, o, (M[0]!)[1]! / ((d : Int) : Rat), 500, 522) (ja_cons (je_op (pe_ix ix_list (jv 5 (R := IsL (IsL (IsQ C)) M)) jI (fun _ _ => rfl)) (rop_ixB (j := 0) (by omega))) (ja_cons (jv 2) (ja_cons (jmeth mover (hr.mono (by decide)) ((M[0]!)[1]!, ((d : Int) : Rat)) (je_op (pe_ix ix_list (je_op (pe_ix ix_list (jv 5 (R := IsL (IsL (IsQ C)) M)) jI (fun _ _ => rfl)) (rop_ixB (j := 0) (by omega))) jI (fun _ _ => rfl)) (rop_ixB (j := 1) (by omega))) (ja_cons (je_conv (je_eq (je_op (pe_op op_sub (je_op (pe_ix ix_tup (je_op (pe_ix ix_list (jv 2 (R := IsLg C o)) jI (fun _ _ => rfl)) (rop_ixB (j := 2) (by omega))) jI (fun _ _ => rfl)) (rop_ixT (j := 1) rfl)) (je_op (pe_ix ix_tup (je_op (pe_ix ix_list (jv 2 (R := IsLg C o)) jI (fun _ _ => rfl)) (rop_ixB (j := 0) (by omega))) jI (fun _ _ => rfl)) (rop_ixT (j := 1) rfl))) rop_sub) (R' := IsI d) (by rw [hd])) isI_nm) ja_nil) rfl (x1.fitsO dz dn (by decide))) ja_nil))) hOut) ja_nil))))) (je_m (jm_slice (pe_slice sl_list (jv 5 (R := IsL (IsL (IsQ C)) M)) (jo_some (jI (i := ((1 : Nat) : Int)))) jo_none) (cut_from _ 1 M rfl).symm))) (rop_cat (by show 1 + _ ≤ _; rw [List.length_drop]; omega)))) (fun v F h => ⟨qss _, outs_ok hMz (by decide) (fun r hr => by rw [List.mem_singleton.mp hr]; exact out_ok hOut) (drM 1) (by show 1 + _ ≤ _; rw [List.length_drop]; omega), l_qss v F h⟩)) pa_nil)) rfl) rfl app_vs (app_ln (by decide))) ?_)
        rintro G' rfl
        exact ⟨17, by decide, rfl⟩
      rintro _ ⟨n, hn, rfl⟩
      refine js_one (js_if (b1 := (decide (2 < o.length) && decide (1 < g.length))) (PW.pt (jw_and (jt_eq (jt_cmp (pt_cmpR op_gt (jbB call_len Z.len boot_len (ja_cons (jv 4 (R := IsHg C o)) ja_nil) rc_len) jI (nomark _)) rop_gt) (by rw [decide_eq_decide]; omega)) fun _ => jw_and1 (jt_eq (jt_cmp (pt_cmpR op_gt (jbB call_len Z.len boot_len (ja_cons (jv 3 (R := IsHg C g)) ja_nil) rc_len) jI (nomark _)) rop_gt) (by rw [decide_eq_decide]; omega)))) (fun hb => ?_) (fun hb => js_nil ⟨M, n, _, hMz, by omega, rfl⟩))
      simp only [Bool.and_eq_true, decide_eq_true_eq] at hb
      obtain ⟨h2, h1⟩ := hb
      have mem1 : M[1]! ∈ M := by rw [getElem!_pos M 1 (by omega)]; exact List.getElem_mem _
      have rl1 := sL.rl _ mem1
      have mg0 : g[0]! ∈ g := by rw [getElem!_pos g 0 (by omega)]; exact List.getElem_mem _
      have mg1 : g[1]! ∈ g := by rw [getElem!_pos g 1 (by omega)]; exact List.getElem_mem _
      have zg0 := (g1.sl.z _ mg0).1
      have zg1 := (g1.sl.z _ mg1).1
      have gn1 := gn _ mg1
      have zd := zg0.div zg1 gn1
      have hA : OutP M[0]! o ((1 : Int) : Rat) 1550 1 := ⟨by omega, by omega, by omega, hoz, sL.sz _ mem0, szc1, by decide⟩
      have hB : OutP M[1]! o (-((g[0]!).1 / (g[1]!).1)) 1550 200 := ⟨by omega, by omega, by omega, hoz, sL.sz _ mem1, zd.neg, by decide⟩
      refine js_one (js_N (js_append (i := 7) (R := Som Vok (IsDv C)) (Rm' := IsVs C (n + 1)) (ps_expr (pe_bm PySem.F.plainAttrs_list PySem.F.slot_list_append PySem.F.type_list_append mt_append (pv 7) (pa_cons (je_conv (je_m (jm_op (pe_op op_cat (je_m (jm_ls (R := IsL (IsQ C)) [outR M[0]! o ((1 : Int) : Rat), outR M[1]! o (-((g[0]!).1 / (g[1]!).1))] (jm_lst (pe_lst (ja_cons (jc k__law_out (hr.mono (by decide)) (M[0]!, o, ((1 : Int) : Rat), 1550, 1) (ja_cons (je_op (pe_ix ix_list (jv 5 (R := IsL (IsL (IsQ C)) M)) jI (fun _ _ => rfl)) (rop_ixB (j := 0) (by omega))) (ja_cons (jv 2) (ja_cons (jmk1 mk (hr.mono (by decide)) (ja_cons jI ja_nil)) ja_nil))) hA) (ja_cons (jc k__law_out (hr.mono (by decide)) (M[1]!, o, -((g[0]!).1 / (g[1]!).1), 1550, 200) (ja_cons (je_op (pe_ix ix_list (jv 5 (R := IsL (IsL (IsQ C)) M)) jI (fun _ _ => rfl)) (rop_ixB (j := 1) (by omega))) (ja_cons (jv 2) (ja_cons (je_negQ oneg (hr.mono (by decide)) (jmeth mover (hr.mono (by decide)) ((g[0]!).1, (g[1]!).1) (je_op (pe_ix ix_tup (je_op (pe_ix ix_list (jv 1 (R := IsLg C g)) jI (fun _ _ => rfl)) (rop_ixB (j := 0) (by omega))) jI (fun _ _ => rfl)) (rop_ixT (j := 0) rfl)) (ja_cons (je_conv (R := IsQ C (g[1]!).1) (je_op (pe_ix ix_tup (je_op (pe_ix ix_list (jv 1 (R := IsLg C g)) jI (fun _ _ => rfl)) (rop_ixB (j := 1) (by omega))) jI (fun _ _ => rfl)) (rop_ixT (j := 0) rfl)) isQ_nm) ja_nil) rfl (zg0.fitsO zg1 gn1 (by decide))) (Nat.lt_of_lt_of_le zd.2 (Nat.pow_le_pow_right (by decide) (by decide)))) ja_nil))) hB) ja_nil)))))) (je_m (jm_slice (pe_slice sl_list (jv 5 (R := IsL (IsL (IsQ C)) M)) (jo_some (jI (i := ((2 : Nat) : Int)))) jo_none) (cut_from _ 2 M rfl).symm))) (rop_cat (by show 2 + _ ≤ _; rw [List.length_drop]; omega)))) (fun v F h => ⟨qss _, outs_ok hMz (by decide) (fun r hr => by
        simp only [List.mem_cons, List.not_mem_nil, or_false] at hr
        rcases hr with rfl | rfl
        · exact out_ok hA
        · exact out_ok hB) (drM 2) (by show 2 + _ ≤ _; rw [List.length_drop]; omega), l_qss v F h⟩)) pa_nil)) rfl) rfl app_vs (app_ln (by omega))) ?_)
      rintro G' rfl
      exact ⟨M, n + 1, _, hMz, by omega, rfl⟩
  rintro _ ⟨B, n, s5, hB, hn, rfl⟩
  have hB19 : Mz 1900 B := ⟨hB.ne, hB.l, fun r hr => ⟨(hB.r r hr).1, (hB.r r hr).2.1, fun x hx => ((hB.r r hr).2.2 x hx).mono (by decide)⟩⟩
  have hBv := hB.vok (by decide)
  refine js_cons (N1 := fun G => ∃ s9, G = [.pot, .fz (IsLg C g), .fz (IsLg C o), .fz (IsHg C g), .fz (IsHg C o), s5, .fz (IsL (IsL (IsQ C)) ev), .mt (IsVs C (n + 3)), .fz (IsL (IsL (IsQ C)) B), s9, .un, .un, .un, .un, .un, .un, .un]) (js_for PassesOwn.never rfl (ji_rangeN (n := 3) (by decide) (pi_range1 rfl Z.range (ja_cons jI ja_nil))) (fun x => jg1 9 nd) (fun i G => ∃ s9, G = [.pot, .fz (IsLg C g), .fz (IsLg C o), .fz (IsHg C g), .fz (IsHg C o), s5, .fz (IsL (IsL (IsQ C)) ev), .mt (IsVs C (n + i)), .fz (IsL (IsL (IsQ C)) B), s9, .un, .un, .un, .un, .un, .un, .un]) ⟨_, rfl⟩ ?_ (fun G1 h => h)) ?_
  · rintro i x G1 hi ⟨s9, rfl⟩
    have hi3 : i < 3 := by have := (List.getElem?_eq_some_iff.mp hi).1; rwa [List.length_range] at this
    refine js_one (js_N (js_append (i := 7) (R := Som Vok (IsDv C)) (Rm' := IsVs C (n + (i + 1))) (ps_expr (pe_bm PySem.F.plainAttrs_list PySem.F.slot_list_append PySem.F.type_list_append mt_append (pv 7) (pa_cons (jcP k__law_bent (hr.mono (by decide)) ⟨0, rfl⟩ B (ja_pot (pv 0) rfl (ja_cons (jv 8) ja_nil)) hB19) pa_nil)) rfl) rfl app_vs (app_ln (by omega))) ?_)
    rintro G' rfl
    exact ⟨_, rfl⟩
  rintro _ ⟨s9, rfl⟩
  refine js_openM (i := 7) rfl (fun x vs F F' h e => h.up F' e) (fun l hl => ?_)
  refine js_frz (i := 7) rfl ?_
  have hln := hl.ln
  have hall : ∀ d ∈ l ++ [qss B], Vok d := fun d hd => (List.mem_append.mp hd).elim (hl.v d) fun h => by rw [List.mem_singleton.mp h]; exact hBv
  refine js_cons (N1 := fun G => ∃ sA sB, G = [.pot, .fz (IsLg C g), .fz (IsLg C o), .fz (IsHg C g), .fz (IsHg C o), s5, .fz (IsL (IsL (IsQ C)) ev), .fz (IsL (IsDv C) l), .fz (IsL (IsL (IsQ C)) B), s9, sA, sB, .un, .un, .un, .un, .un]) (js_for PassesOwn.never rfl (ji_list (Rx := IsDv C) (xs := l ++ [qss B]) (pi_list (je_m (jm_op (pe_op op_cat (jv 7 (R := IsL (IsDv C) l)) (je_m (jm_ls (R := IsDv C) [qss B] (jm_lst (pe_lst (ja_cons (je_conv (jv 8 (R := IsL (IsL (IsQ C)) B)) l_qss) ja_nil)))))) (rop_cat (by show _ + 1 ≤ _; omega)))))) (fun x => jg1 10 nd) (fun i G => ∃ sA sB, G = [.pot, .fz (IsLg C g), .fz (IsLg C o), .fz (IsHg C g), .fz (IsHg C o), s5, .fz (IsL (IsL (IsQ C)) ev), .fz (IsL (IsDv C) l), .fz (IsL (IsL (IsQ C)) B), s9, sA, sB, .un, .un, .un, .un, .un]) ⟨_, _, rfl⟩ ?_ (fun G1 h => h)) ?_
  · rintro i d G1 hi ⟨sA, sB, rfl⟩
    have hd := hall d (List.mem_of_getElem? hi)
    refine js_seq (js_set (i := 11) (R := IsS (dvT repS d)) (ps_set (i := 11) nd rfl (.inl rfl) (jbB (call_reprD T hr (n := 3) (by decide) hG) Z.repr boot_repr (ja_cons (jv 10 (R := IsDv C d)) ja_nil) (rc_reprD hd.top)))) ?_
    refine js_one (js_if (b1 := false) (PW.pt (jw_or (b1 := false) (b2 := false) (jt_eq (jt_cmp (pt_cmpR op_ne (jbB call_repr_bool Z.repr boot_repr (ja_cons (jc k_is_splitting__D (hr.mono (by decide)) (scG g, scG o, d) (ja_cons (je_conv (jv 3 (R := IsHg C g)) hg_sg) (ja_cons (je_conv (jv 4 (R := IsHg C o)) hg_sg) (ja_cons (jv 10 (R := IsDv C d)) ja_nil))) ⟨g1.gp, o1.gp, hd.z⟩) ja_nil) rc_reprB) (jbB call_repr_bool Z.repr boot_repr (ja_cons (jc k__law_is_splitting (hr.mono (by decide)) (g, o, d) (ja_cons (jv 1) (ja_cons (jv 2) (ja_cons (jv 10 (R := IsDv C d)) ja_nil))) ⟨gM, oM, hd.z⟩) ja_nil) rc_reprB) (nomark _)) rop_neS) (by rw [splD_ls]; simp)) fun _ => jw_or1 (jt_eq (jt_cmp (pt_cmpR op_ne (jbB (call_reprD T hr (n := 3) (by decide) hG) Z.repr boot_repr (ja_cons (jv 10 (R := IsDv C d)) ja_nil) (rc_reprD hd.top)) (jv 11 (R := IsS (dvT repS d))) (nomark _)) rop_neS) (by simp)))) (fun h => nomatch h) (fun _ => js_nil ⟨_, _, rfl⟩))
  rintro _ ⟨sA, sB, rfl⟩
  refine js_one (js_ret (je_eq (je_op (pe_cmpR op_eq (jbB call_repr_bool Z.repr boot_repr (ja_cons (jcK0 kws (hr.mono (by decide)) (scG g, scG o, qss B) (R2 := [IsDv C (qss B), IsSG C (scG g), IsSG C (scG o)]) (jk_cons (je_conv (jv 8 (R := IsL (IsL (IsQ C)) B)) l_qss) (jk_cons (je_conv (jv 3 (R := IsHg C g)) hg_sg) (jk_cons (je_conv (jv 4 (R := IsHg C o)) hg_sg) jk_nil))) rfl (fun ws F a => ?_) ⟨g1.gp, o1.gp, hBv.z⟩) ja_nil) rc_reprB) (jbB call_repr_bool Z.repr boot_repr (ja_cons (jc k__law_is_splitting (hr.mono (by decide)) (g, o, qss B) (ja_cons (jv 1) (ja_cons (jv 2) (ja_cons (je_conv (jv 8 (R := IsL (IsL (IsQ C)) B)) l_qss) ja_nil))) ⟨gM, oM, hBv.z⟩) ja_nil) rc_reprB) (nomark _)) rop_eqS) (R' := IsB true) (by rw [splD_ls]; simp)))
  cases a with
  | cons u1 a =>
    cases a with
    | cons u2 a =>
      cases a with
      | cons u3 a =>
        cases a
        exact .cons u2 (.cons u3 (.cons u1 .nil))
end
end Gw
set_option maxHeartbeats 1000000
namespace Gw
open PySem PySem.Spec PyProof.Rows L2
theorem je_makeS {X : Cx} {E : En} {G : List Sl} {e : Expr} {C : Addr} {E' : XK} {dvs : List V} {Rl : List (V → Hp → Prop)} {b : Int} {Pd : Nat → Prop} (p : PE X e (tMake C (InitSp C) dvs E' (tA E G Rl))) (hv : ∀ vs F, Args Rl vs F → ∃ d : Nat, Pd d ∧ vs ++ dvs = [.int (d : Int), .int b]) (hb : Ht b) : PE X e (tE E G (Som Pd fun d => IsQ C (Rat.divInt (d : Int) b))) := PE_imp p fun σ H Q ⟨F, S, k⟩ => ⟨F, S, fun vs F1 H1 g1 a x dx hx hdx hne => by
  obtain ⟨d, pd, hv⟩ := hv vs F1 a
  have n1 : F1 x = none := g1.s.back hx
  have n2 : F1 dx = none := g1.s.back hdx
  refine ⟨F1, x, dx, (d : Int), b, by rw [hv], ⟨fun y o h => ?_, fun _ h => nomatch h⟩, n1, upd_same, hb, fun H' fin => ⟨rfl, ?_⟩⟩
  · rw [upd_ne (ne_of_none h n1), upd_ne (ne_of_none h n2)]
    exact g1.s _ _ h
  · have keep : ∀ y o, H1 y = some o → H' y = some o := fun y o h => fin.2 y o (ne_of_none h hx) (by rw [upd_ne (ne_of_none h hx), upd_ne (ne_of_none h hdx)]; exact h)
    refine k (.ref x) (upd F1 x (.ins C dx (qFs (Rat.divInt (d : Int) b)))) H' ⟨g1.f.trans (Ex.new n1), fun y o h => ?_, fun y o h hp => keep y o (g1.k y o h hp), fun y o h => ?_, fun y hy => ?_⟩ (fun F' e' => ⟨d, pd, IsQ.up ⟨x, dx, rfl, upd_same⟩ F' e'⟩)
    · by_cases z : y = x
      · subst z
        rw [upd_same] at h
        cases h
        exact fin.1
      · rw [upd_ne z] at h
        exact keep y o (g1.s _ _ h)
    · by_cases z : y = x
      · rw [z]
        exact .inr (g1.back hx)
      · rw [upd_ne z] at h
        exact g1.n y o h
    · obtain ⟨q1, i, j, q2, q3⟩ := g1.p y hy
      have z : y ≠ x := ne_of_none q2 hx
      exact ⟨by rw [upd_ne z]; exact q1, i, j, keep y _ q2, q3⟩⟩
theorem jmk2S {X : Cx} {E : En} {G : List Sl} {e o : Expr} {p pos : Pos} {C : Addr} {k : Nat} {u : Int} {Pd : Nat → Prop} (T : Mkr X.prog X.w X.K X.mg X.base C k) (hr : Room (k + 1) X.A) (ha : PA X [e, o] (tA E G [Som Pd IsU, IsI u])) (hb : Ht u) (hg : Gl X "Ratio" := by rfl) (he : starEach [e, o] X.env = (false, eval e X.env) :: starEach [o] X.env := by rfl)
    (hpl : (backTo pos (starEach [o] X.env)).any (·.1) = false := by rfl) : PE X (.Call (.Name "Ratio" p) [e, o] [] pos) (tE E G (Som Pd fun d => IsQ C (Rat.divInt (d : Int) u))) := by
  obtain ⟨g, f, fd, ds, M, ok, b0, hd, b1⟩ := T
  exact je_makeS (E' := E0) (pe_make M ok hr hg g b0 .nil pass0 ha (by decide) he hpl) (fun vs F a => by
    cases a with
    | cons r t =>
      cases t with
      | cons r2 t2 =>
        cases t2
        obtain ⟨d, pd, e⟩ := r.here
        exact ⟨d, pd, by rw [show _ = V.int _ from e, show _ = V.int _ from r2.here]; rfl⟩) hb
structure Hok (n : Nat) (l : List Dv) : Prop where
  ln : l.length ≤ n
  z : ∀ d ∈ l, Sz 100 (nuV d)
abbrev IsHs (C : Addr) (n : Nat) : List V → Hp → Prop := SomM (Hok n) (LsOf (IsDv C))
theorem app_hs {C : Addr} {n : Nat} : ∀ vs v F, Up (IsHs C n) vs F → Up (Som (fun d => Sz 100 (nuV d)) (IsDv C)) v F → Up (IsHs C (n + 1)) (vs ++ [v]) F := fun vs v F a b => by
  obtain ⟨l, hl, q⟩ := a.here
  obtain ⟨d, hd, r⟩ := b.here
  exact fun F' e' => ⟨l ++ [d], ⟨by rw [List.length_append]; have := hl.ln; show _ + 1 ≤ _; omega, fun x hx => (List.mem_append.mp hx).elim (hl.z x) fun h => by rw [List.mem_singleton.mp h]; exact hd⟩, (q.snoc ((mo_dv d).up r)).up F' e'⟩
theorem app_hn {C : Addr} {n : Nat} (hn : n < 1000) : ∀ vs F, IsHs C n vs F → vs.length < sizeLine := fun vs F ⟨l, hl, q⟩ => by
  rw [← q.len]
  have := hl.ln
  exact line_of (m := 1000) (by omega)
def H0 : List Dv := [.non, .bl true, .str "1", .lst [], .lst [.int 1], .tup [], .em, .int 0, .int 1, .int (-1), .int 2, .int 5, .q ((1 : Int) : Rat), .q (Rat.divInt (-1) 2), .q (Rat.divInt 1 24), .q (Rat.divInt 25 24)]
theorem h0_ok : ∀ d ∈ H0, Sz 100 (nuV d) := fun d hd => by
  simp only [H0, List.mem_cons, List.not_mem_nil, or_false] at hd
  rcases hd with rfl | rfl | rfl | rfl | rfl | rfl | rfl | rfl | rfl | rfl | rfl | rfl | rfl | rfl | rfl | rfl <;> exact ⟨by decide +kernel, by decide +kernel⟩
theorem sz_dq {n : Nat} (h : n < 2 ^ 20) {k : Int} (hk : k ≠ 0) (hk2 : k.natAbs < 2 ^ 20) : Sz 100 (Rat.divInt (n : Int) k) := by
  have a := num_le (n : Int) k hk
  have b := den_le (n : Int) k hk
  rw [Int.natAbs_natCast] at a
  have c : (2 : Nat) ^ 20 ≤ 2 ^ 100 := Nat.pow_le_pow_right (by decide) (by decide)
  exact ⟨by omega, by omega⟩
theorem szi12 : Sz 4 ((12 : Int) : Rat) := ⟨by decide +kernel, by decide +kernel⟩
section
variable {P : Program} {w : World} {K : PySem.W.Frag} {mg : Str → Option Value} {base : Heap} {C : Addr}
abbrev sp__law_hinges_right (C : Addr) : Sp := PrP (ι := LGu × LGu) (fun w => [IsLg C w.1, IsLg C w.2]) (fun w => GOk w.1 ∧ GOk w.2) (fun _ => IsB true)
abbrev Kn__law_hinges_right (P : Program) (w : World) (K : PySem.W.Frag) (mg : Str → Option Value) (base : Heap) (C : Addr) : Prop := KnG P w K mg base "_law_hinges_right" 16 ["pot", "guess", "other"] (sp__law_hinges_right C)
theorem ok__law_hinges_right (Z : Glo K mg C) (mk : Mkr P w K mg base C 2) (oadd : Opr P w K mg base C .Add 6 (fun w => Fits w.1 w.2) (· + ·)) (omul : Opr P w K mg base C .Mult 6 (fun w => Fits w.1 w.2) (· * ·)) (kwh : KwIh P w K mg base C) (k__law_handed : Kn__law_handed P w K mg base C) (k_is_hinge__D : Kn_is_hinge__D P w K mg base C) (k__law_is_number : Kn__law_is_number P w K mg base C) (k__law_is_hinge : Kn__law_is_hinge P w K mg base C) (k__law_draw : Kn__law_draw P w K mg base C) {f : Addr} {fd : FuncData} (Fd : FnP K "_law_hinges_right" st__law_hinges_right f fd) : FnG P w K mg base CX0 16 f fd ["pot", "guess", "other"] (sp__law_hinges_right C) := by
  refine fnG_prP Fd sc__law_hinges_right (fun u => by first | rfl | (cases u <;> rfl)) (by decide) (fun X u E hX hG hp => ?_)
  obtain ⟨cdv, A, outer, s, H, E', rfl, hr⟩ := hX
  refine PSs.nox ?_
  have nd := (sc__law_hinges_right).nd
  replace hr : Room 15 (cxOf CX0 P w K mg base N__law_hinges_right "_law_hinges_right" (defScope st__law_hinges_right) f cdv A outer s H E').nox.A := hr
  obtain ⟨g, o⟩ := u
  obtain ⟨g1, o1⟩ : GOk g ∧ GOk o := hp
  have gl := g1.sl.l
  have ol := o1.sl.l
  refine js_seq (js_par (i := 3) (j := 4) (Ra := IsHg C g) (Rb := IsHg C o) (ps_par (i := 3) (j := 4) rfl nd rfl rfl (by decide) rfl rfl (pa_cons (jc k__law_handed (hr.mono (by decide)) g (ja_cons (jv 1) ja_nil) g1.sl) (pa_cons (jc k__law_handed (hr.mono (by decide)) o (ja_cons (jv 2) ja_nil) o1.sl) pa_nil)) rfl)) ?_
  refine js_seq (js_setM (i := 5) (Rm := IsHs C 16) (ps_set (i := 5) nd rfl (.inl rfl) (jm_conv (jm_ls (R := IsDv C) H0 (jm_lst (pe_lst (ja_cons (je_conv jNon (fun v F h => h)) (ja_cons (je_conv jBl (fun v F h => h)) (ja_cons (je_conv jS (fun v F h => h)) (ja_cons (je_conv (je_m (jm_ls (R := IsDv C) ([] : List Dv) (jm_lst (pe_lst ja_nil)))) l_dv) (ja_cons (je_conv (je_m (jm_ls (R := IsDv C) [.int 1] (jm_lst (pe_lst (ja_cons (je_conv jI (fun v F h => h)) ja_nil))))) l_dv) (ja_cons (je_conv (je_tup (pe_tup ja_nil)) l_em) (ja_cons (je_conv je_em (fun v F h => h)) (ja_cons (je_conv jI (fun v F h => h)) (ja_cons (je_conv jI (fun v F h => h)) (ja_cons (je_conv jM1 (fun v F h => h)) (ja_cons (je_conv jI (fun v F h => h)) (ja_cons (je_conv jI (fun v F h => h)) (ja_cons (je_conv (jmk1 mk (hr.mono (by decide)) (ja_cons jI ja_nil)) (fun v F h => h)) (ja_cons (je_conv (jmk2 mk (hr.mono (by decide)) (ja_cons jM1 (ja_cons jI ja_nil)) ⟨by decide, by decide⟩) (fun v F h => h)) (ja_cons (je_conv (jmk2 mk (hr.mono (by decide)) (ja_cons jI (ja_cons jI ja_nil)) ⟨by decide, by decide⟩) (fun v F h => h)) (ja_cons (je_conv (jmk2 mk (hr.mono (by decide)) (ja_cons jI (ja_cons jI ja_nil)) ⟨by decide, by decide⟩) (fun v F h => h)) ja_nil))))))))))))))))))) (fun vs F l => ⟨H0, ⟨by decide, h0_ok⟩, l⟩)))) ?_
  refine js_cons (N1 := fun G => ∃ s6, G = [.pot, .fz (IsLg C g), .fz (IsLg C o), .fz (IsHg C g), .fz (IsHg C o), .mt (IsHs C (16 + 3)), s6, .un, .un, .un, .un]) (js_for PassesOwn.never rfl (ji_rangeN (n := 3) (by decide) (pi_range1 rfl Z.range (ja_cons jI ja_nil))) (fun x => jg1 6 nd) (fun i G => ∃ s6, G = [.pot, .fz (IsLg C g), .fz (IsLg C o), .fz (IsHg C g), .fz (IsHg C o), .mt (IsHs C (16 + i)), s6, .un, .un, .un, .un]) ⟨_, rfl⟩ ?_ (fun G1 h => h)) ?_
  · rintro i x G1 hi ⟨s6, rfl⟩
    have hi3 : i < 3 := by have := (List.getElem?_eq_some_iff.mp hi).1; rwa [List.length_range] at this
    refine js_one (js_N (js_append (i := 5) (R := Som (fun d => Sz 100 (nuV d)) (IsDv C)) (Rm' := IsHs C (16 + (i + 1))) (ps_expr (pe_bm PySem.F.plainAttrs_list PySem.F.slot_list_append PySem.F.type_list_append mt_append (pv 5) (pa_cons (je_conv (jmk2S (Pd := fun d => d < 73) mk (hr.mono (by decide)) (ja_cons (jcP k__law_draw (hr.mono (by decide)) ⟨0, rfl⟩ 73 (ja_pot (pv 0) rfl (ja_cons jI ja_nil)) ⟨by decide, by decide⟩) (ja_cons jI ja_nil)) ⟨by decide, by decide⟩) (fun v F ⟨d, hd, h⟩ => ⟨.q (Rat.divInt (d : Int) 24), sz_dq (n := d) (k := 24) (by omega) (by decide) (by decide), h⟩)) pa_nil)) rfl) rfl app_hs (app_hn (by omega))) ?_)
    rintro G' rfl
    exact ⟨_, rfl⟩
  rintro _ ⟨s6, rfl⟩
  have hz : ∀ p ∈ g ++ o, p.2 < 2 ^ 20 := fun p hp => by
    rcases List.mem_append.mp hp with h | h
    · exact (g1.sl.z p h).2
    · exact (o1.sl.z p h).2
  refine js_cons (N1 := fun G => ∃ s7 s8, G = [.pot, .fz (IsLg C g), .fz (IsLg C o), .fz (IsHg C g), .fz (IsHg C o), .mt (IsHs C (19 + (g ++ o).length)), s6, s7, s8, .un, .un]) (js_for PassesOwn.never rfl (ji_list (Rx := IsLp C) (xs := g ++ o) (pi_list (je_m (jm_op (pe_op op_cat (jv 1 (R := IsLg C g)) (jv 2 (R := IsLg C o))) (rop_cat (by omega)))))) (fun x => jg2 7 8 nd) (fun i G => ∃ s7 s8, G = [.pot, .fz (IsLg C g), .fz (IsLg C o), .fz (IsHg C g), .fz (IsHg C o), .mt (IsHs C (19 + i)), s6, s7, s8, .un, .un]) ⟨_, _, rfl⟩ ?_ (fun G1 h => h)) ?_
  · rintro i p G1 hi ⟨s7, s8, rfl⟩
    have hil := (List.getElem?_eq_some_iff.mp hi).1
    rw [List.length_append] at hil
    have hpz := hz p (List.mem_of_getElem? hi)
    refine js_one (js_N (js_append (i := 5) (R := Som (fun d => Sz 100 (nuV d)) (IsDv C)) (Rm' := IsHs C (19 + (i + 1))) (ps_expr (pe_bm PySem.F.plainAttrs_list PySem.F.slot_list_append PySem.F.type_list_append mt_append (pv 5) (pa_cons (je_conv (jmk2 mk (hr.mono (by decide)) (ja_cons (jv 8 (R := IsU p.2)) (ja_cons jI ja_nil)) ⟨by decide, by decide⟩) (fun v F h => ⟨.q (Rat.divInt (p.2 : Int) 12), sz_dq (k := 12) hpz (by decide) (by decide), h⟩)) pa_nil)) rfl) rfl app_hs (app_hn (by omega))) ?_)
    rintro G' rfl
    exact ⟨_, _, rfl⟩
  rintro _ ⟨s7, s8, rfl⟩
  refine js_openM (i := 5) rfl (fun x vs F F' h e => h.up F' e) (fun l hl => ?_)
  refine js_frz (i := 5) rfl ?_
  refine js_cons (N1 := fun G => ∃ s9 sA, G = [.pot, .fz (IsLg C g), .fz (IsLg C o), .fz (IsHg C g), .fz (IsHg C o), .fz (IsL (IsDv C) l), s6, s7, s8, s9, sA]) (js_for PassesOwn.never rfl (ji_list (Rx := IsDv C) (xs := l) (pi_list (jv 5 (R := IsL (IsDv C) l)))) (fun x => jg1 9 nd) (fun i G => ∃ s9 sA, G = [.pot, .fz (IsLg C g), .fz (IsLg C o), .fz (IsHg C g), .fz (IsHg C o), .fz (IsL (IsDv C) l), s6, s7, s8, s9, sA]) ⟨_, _, rfl⟩ ?_ (fun G1 h => h)) ?_
  · rintro i d G1 hi ⟨s9, sA, rfl⟩
    have hd := hl.z d (List.mem_of_getElem? hi)
    have e0 : (0 : Rat) + nuV d = nuV d := Rat.zero_add _
    refine js_seq (js_set (i := 10) (R := IsB (isND d && decide (laR o (nuV d * ((12 : Int) : Rat)) < laR g (nuV d * ((12 : Int) : Rat))))) (ps_set (i := 10) nd rfl (.inl rfl) (je_and (b1 := isND d) (jc k__law_is_number (hr.mono (by decide)) d (ja_cons (jv 9 (R := IsDv C d)) ja_nil) trivial) (fun hn => pe_one (jc k__law_is_hinge (hr.mono (by decide)) (g, o, nuV d * ((12 : Int) : Rat)) (ja_cons (jv 1) (ja_cons (jv 2) (ja_cons (joQI (q := nuV d) omul (hr.mono (by decide)) (je_eq (joQN (q := 0) (r := nuV d) oadd (hr.mono (by decide)) (jmk1 mk (hr.mono (by decide)) (ja_cons jI ja_nil)) (je_conv (jv 9 (R := IsDv C d)) (dv_nm hn)) (sz0.fits hd (by decide))) (by rw [e0])) jI (hd.fits szi12 (by decide))) ja_nil))) ⟨g1.sl, o1.sl, (hd.mul szi12).mono (by decide)⟩))))) ?_
    refine js_one (js_if (b1 := false) (jt_eq (jt_cmp (pt_cmpR op_ne (jbB call_repr_bool Z.repr boot_repr (ja_cons (jc k_is_hinge__D (hr.mono (by decide)) (scG g, scG o, d) (ja_cons (je_conv (jv 3 (R := IsHg C g)) hg_sg) (ja_cons (je_conv (jv 4 (R := IsHg C o)) hg_sg) (ja_cons (jv 9 (R := IsDv C d)) ja_nil))) ⟨g1.gp, o1.gp, hd⟩) ja_nil) rc_reprB) (jbB call_repr_bool Z.repr boot_repr (ja_cons (jv 10) ja_nil) rc_reprB) (nomark _)) rop_neS) (by rw [hgD_la]; simp)) (fun h => nomatch h) (fun _ => js_nil ⟨_, _, rfl⟩))
  rintro _ ⟨s9, sA, rfl⟩
  have z1 : Sz 100 (nuV (.int 1)) := ⟨by decide +kernel, by decide +kernel⟩
  refine js_one (js_ret (je_eq (je_op (pe_cmpR op_eq (jbB call_repr_bool Z.repr boot_repr (ja_cons (jcK0 kwh (hr.mono (by decide)) (scG g, scG o, .int 1) (R2 := [IsDv C (.int 1), IsSG C (scG o), IsSG C (scG g)]) (jk_cons (je_conv jI (fun v F h => h)) (jk_cons (je_conv (jv 4 (R := IsHg C o)) hg_sg) (jk_cons (je_conv (jv 3 (R := IsHg C g)) hg_sg) jk_nil))) rfl (fun ws F a => ?_) ⟨g1.gp, o1.gp, z1⟩) ja_nil) rc_reprB) (jbB call_repr_bool Z.repr boot_repr (ja_cons (jc k__law_is_hinge (hr.mono (by decide)) (g, o, ((12 : Int) : Rat)) (ja_cons (jv 1) (ja_cons (jv 2) (ja_cons (jmk1 mk (hr.mono (by decide)) (ja_cons jI ja_nil)) ja_nil))) ⟨g1.sl, o1.sl, szi12.mono (by decide)⟩) ja_nil) rc_reprB) (nomark _)) rop_eqS) (R' := IsB true) ?_))
  · cases a with
    | cons u1 a =>
      cases a with
      | cons u2 a =>
        cases a with
        | cons u3 a =>
          cases a
          exact .cons u3 (.cons u2 (.cons u1 .nil))
  · have e : nuV (.int 1) * ((12 : Int) : Rat) = ((12 : Int) : Rat) := by decide +kernel
    have h1 : isND (.int 1) = true := rfl
    rw [hgD_la, e, h1, Bool.true_and]
    simp
end
end Gw
set_option maxHeartbeats 1000000
namespace Gw
open PySem PySem.Spec PyProof.Rows L2
/-- pot = f(..) -/
theorem js_newpot {X : Cx} {E : En} {G : List Sl} {st : Stmt} {rest : List Stmt} {Rt : V → Hp → Hp → Prop} {N : List Sl → Prop} {i : Nat} {Rm : List V → Hp → Prop} (hE : E.pp = none) (hm : ∀ (j : Nat) (R : List V → Hp → Prop), G[j]? = some (.mt R) → False) (p : PS X st (tAsg (tM E G Rm) (gName i))) (hi : i < G.length)
    (hP : ∀ vs F, Rm vs F → ∃ a b : Int, vs = [.int a, .int b] ∧ 0 ≤ a ∧ 0 ≤ b ∧ b < 2 ^ 40) (q : ∀ E1 : En, PSs X rest (tS E1 (G.set i .pot) Rt (fun _ => False))) : PSs X (st :: rest) (tS E G Rt N) :=
  PSs_imp (pss_cons p (PSs_any (ι := En) (t := fun E1 => tS E1 (G.set i .pot) Rt (fun _ => False)) q)) fun D σ H ⟨F, S, kn, kr⟩ =>
    ⟨F, S, fun p vs F1 H1 g n1 n2 n3 u => by
      obtain ⟨a, b, rfl, h1, h2, h3⟩ := hP vs F1 u.here
      have hb := S.bs.trans g
      have nE : E.H p = none := S.bs.back n1
      refine ⟨⟨F1, H1, some p⟩, F1, ?_, fun G' σ' F' H' n => n.elim, fun v F2 H2 g2 r => kr v F2 H2 ?_ r⟩
      · have S1 := S.gr g
        refine ⟨?_, ?_, ?_, ?_, ?_, ?_, ?_⟩
        · rw [List.length_set, List.length_set]
          exact S.len
        · refine ⟨Ex.refl _, g.s, fun a o h _ => h, fun a o h => .inl h, fun z e => ?_⟩
          cases e
          exact ⟨n2, a, b, n3, h1, h2, h3⟩
        · intro z e
          cases e
          exact ⟨_, n3⟩
        · intro j R hj
          by_cases e : i = j
          · subst e
            rw [List.getElem?_set_self hi] at hj
            cases hj
          · rw [List.getElem?_set_ne e] at hj
            obtain ⟨v, hv, hu⟩ := S1.fz j R hj
            exact ⟨v, by rw [List.getElem?_set_ne e]; exact hv, hu⟩
        · intro j R hj
          by_cases e : i = j
          · subst e
            rw [List.getElem?_set_self hi] at hj
            cases hj
          · rw [List.getElem?_set_ne e] at hj
            exact (hm j R hj).elim
        · intro j l R S' z hne hj
          by_cases e : i = j
          · subst e
            rw [List.getElem?_set_self hi] at hj
            cases hj
          · rw [List.getElem?_set_ne e] at hj
            exact (hm j R hj).elim
        · intro j hj
          by_cases e : i = j
          · subst e
            exact ⟨p, by rw [List.getElem?_set_self (by rw [S.len]; exact hi)], rfl⟩
          · rw [List.getElem?_set_ne e] at hj
            obtain ⟨z, _, hz⟩ := S.pt j hj
            rw [hE] at hz
            cases hz
      · have hb2 : Gr E.pp E.F E.H F1 H1 := hb
        show Gr E.pp E.F E.H F2 H2
        have g2 : Gr (some p) F1 H1 F2 H2 := g2
        rw [hE] at hb2 ⊢
        refine ⟨hb2.f.trans g2.f, g2.s, fun a o h _ => g2.k a o (hb2.k a o h (fun z => nomatch z)) (fun z => ?_), fun a o h => ?_, fun _ z => nomatch z⟩
        · have : a = p := (Option.some.inj z).symm
          rw [this, nE] at h
          cases h
        · rcases g2.n a o h with w | w
          · exact hb2.n a o w
          · exact .inr (hb2.back w)⟩
section
variable {P : Program} {w : World} {K : PySem.W.Frag} {mg : Str → Option Value} {base : Heap} {C : Addr}
abbrev Kn__law_pot (P : Program) (w : World) (K : PySem.W.Frag) (mg : Str → Option Value) (base : Heap) (C : Addr) : Prop := Kn P w K mg base "_law_pot" 1 ["script", "k"] (sp__law_pot K)
abbrev sp_law0 (K : PySem.W.Frag) : Sp := Pr (ι := List Int) (fun ns => [IsScr K ns]) (fun _ => True) (fun _ => IsB true)
theorem ok_law0 (Z : Glo K mg C) (k_pot : Kn__law_pot P w K mg base C) (MM : MathP) (k__law_draw : Kn__law_draw P w K mg base C) (k__law_guess : Kn__law_guess P w K mg base C) (k__law_spread_out : Kn__law_spread_out P w K mg base C) (k_sr : Kn__law_splittings_right P w K mg base C) (k_hr : Kn__law_hinges_right P w K mg base C) {f : Addr} {fd : FuncData} (Fd : FnP K "law" st_law f fd) : FnG P w K mg base CX0 18 f fd ["script"] (sp_law0 K) := by
  refine fnG_pr Fd sc_law (fun u => rfl) (fun X u E hX hG hp hE => ?_)
  obtain ⟨cdv, A, outer, s, H, E', rfl, hr⟩ := hX
  have nd := sc_law.nd
  refine PSs.nox ?_
  rename List Int => ns
  refine js_newpot (i := 1) hE (fun j R h => ?_) (ps_set (i := 1) nd rfl (.inl rfl) (jcM k_pot (hr.mono (by decide)) ns (ja_cons (jv 0 (R := IsScr K ns)) (ja_cons jI ja_nil)) trivial)) (by show 1 < 4; decide) (fun vs F h => h) fun E1 => ?_
  · match j, h with
    | 0, h => cases h
    | 1, h => cases h
    | 2, h => cases h
    | 3, h => cases h
    | n + 4, h => cases h
  refine js_seq (js_set (i := 2) (R := Som (Mk 3 2) (IsLg C)) (ps_set (i := 2) nd rfl (.inl rfl) (jcP k__law_guess (hr.mono (by decide)) ⟨1, rfl⟩ 3 (ja_pot (pv 1) rfl (ja_cons jI ja_nil)) (.inl rfl)))) ?_
  refine js_open (i := 2) rfl (fun x v F F' h e => mo_L v F F' h e) fun one hone => ?_
  obtain ⟨ml1, mz1⟩ := MM.md 3 2 one (.inl rfl) (by decide) hone
  refine js_seq (js_set (i := 3) (R := Som (fun o => Sp1 4 one o ∨ Mk 4 2 o) (IsLg C)) (ps_set (i := 3) nd rfl (.inl rfl) (je_ifS (Pb := fun _ => True) (jts_cmp (pt_cmpR op_gt (jcP k__law_draw (hr.mono (by decide)) ⟨1, rfl⟩ 3 (ja_pot (pv 1) rfl (ja_cons jI ja_nil)) ⟨by decide, by decide⟩) jI (nomark _)) (rop_somL (fun _ => mo_I) fun d _ => rop_to rop_gt fun v F h => ⟨_, trivial, h⟩)) (fun _ => je_conv (R := Som (Sp1 4 one) (IsLg C)) (jcP k__law_spread_out (hr.mono (by decide)) ⟨1, rfl⟩ (one, 4) (ja_pot (pv 1) rfl (ja_cons (jv 2 (R := IsLg C one)) (ja_cons jI ja_nil))) ⟨ml1, mz1⟩) (fun v F ⟨g, h, q⟩ => ⟨g, .inl h, q⟩)) (fun _ => je_conv (R := Som (Mk 4 2) (IsLg C)) (jcP k__law_guess (hr.mono (by decide)) ⟨1, rfl⟩ 4 (ja_pot (pv 1) rfl (ja_cons jI ja_nil)) (.inr rfl)) (fun v F ⟨g, h, q⟩ => ⟨g, .inr h, q⟩))))) ?_
  refine js_open (i := 3) rfl (fun x v F F' h e => mo_L v F F' h e) fun other hoth => ?_
  obtain ⟨t1, t2, _⟩ := MM.two one other hone hoth
  refine js_seq (G1 := [.fz (IsScr K ns), .pot, .fz (IsLg C one), .fz (IsLg C other)]) (js_ifS (Pb := fun _ => True) (jts_cmp (pt_cmpR op_eq (jcP k__law_draw (hr.mono (by decide)) ⟨1, rfl⟩ 2 (ja_pot (pv 1) rfl (ja_cons jI ja_nil)) ⟨by decide, by decide⟩) jI (nomark _)) (rop_somL (fun _ => mo_I) fun d _ => rop_to rop_eqI fun v F h => ⟨_, trivial, h⟩)) (fun _ => js_one (js_ret (jcPG k_sr (hr.mono (by decide)) hG ⟨1, rfl⟩ (one, other) (ja_pot (pv 1) rfl (ja_cons (jv 2) (ja_cons (jv 3) ja_nil))) t1))) (fun _ => js_nil rfl)) ?_
  exact js_one (js_ret (je_ifS (Pb := fun _ => True) (jts_cmp (pt_cmpR op_eq (jcP k__law_draw (hr.mono (by decide)) ⟨1, rfl⟩ 2 (ja_pot (pv 1) rfl (ja_cons jI ja_nil)) ⟨by decide, by decide⟩) jI (nomark _)) (rop_somL (fun _ => mo_I) fun d _ => rop_to rop_eqI fun v F h => ⟨_, trivial, h⟩)) (fun _ => jcPG k_hr (hr.mono (by decide)) hG ⟨1, rfl⟩ (other, one) (ja_pot (pv 1) rfl (ja_cons (jv 3) (ja_cons (jv 2) ja_nil))) ⟨t1.o1, t1.g1⟩) (fun _ => jcPG k_hr (hr.mono (by decide)) hG ⟨1, rfl⟩ (one, other) (ja_pot (pv 1) rfl (ja_cons (jv 2) (ja_cons (jv 3) ja_nil))) ⟨t1.g1, t1.o1⟩)))
def spLaw (K : PySem.W.Frag) : Sp := fun vs H Q _ => ∃ (a : Addr) (ns : List Int), vs = [.ref a] ∧ SqL K H a (ns.map V.int) ∧ ∀ H', Q (.bl true) H'
theorem FnG.imp {CX : CXT} {k : Nat} {f : Addr} {fd : FuncData} {ps : List Str} {sp sp' : Sp} (F : FnG P w K mg base CX k f fd ps sp) (h : ∀ vs H Q E, sp' vs H Q E → sp vs H Q E) : FnG P w K mg base CX k f fd ps sp' :=
  ⟨fun vs H Q E q => F.len vs H Q E (h vs H Q E q), fun A outer s H args us vs Q E hr hG e0 hb r q => F.run A outer s H args us vs Q E hr hG e0 hb r (h vs H Q E q)⟩
theorem ok_law (Z : Glo K mg C) (k_pot : Kn__law_pot P w K mg base C) (MM : MathP) (k__law_draw : Kn__law_draw P w K mg base C) (k__law_guess : Kn__law_guess P w K mg base C) (k__law_spread_out : Kn__law_spread_out P w K mg base C) (k_sr : Kn__law_splittings_right P w K mg base C) (k_hr : Kn__law_hinges_right P w K mg base C) {f : Addr} {fd : FuncData} (Fd : FnP K "law" st_law f fd) : FnG P w K mg base CX0 18 f fd ["script"] (spLaw K) := by
  refine (ok_law0 Z k_pot MM k__law_draw k__law_guess k__law_spread_out k_sr k_hr Fd).imp fun vs H Q E' h => ?_
  obtain ⟨a, ns, rfl, hs, kq⟩ := h
  refine ⟨H, ns, ⟨Ex.refl H, fun _ z => nomatch z⟩, .cons (fun F' e => ⟨a, rfl, sql_ex hs e⟩) .nil, trivial, fun v F' H' g u => ?_⟩
  have e : v = .bl true := u.here
  rw [e]
  exact kq H'
end
end Gw
/-! Plain: guesses made by drawing worths up and down. -/
namespace Gw
/-! ### parts of one worth put together: sums stay -/
theorem jw_mem {ps : LGu} {n : Int} : n ∈ jwL ps ↔ ∃ p ∈ ps, (p.2 : Int) = n := by
  unfold jwL
  constructor
  · intro h
    obtain ⟨q, hq, rfl⟩ := List.mem_map.mp h
    have := (mem_enumN (List.mem_filter.mp hq).1).2
    exact ⟨q.2, List.mem_of_getElem? this, rfl⟩
  · rintro ⟨p, hp, rfl⟩
    -- the first place with that worth
    obtain ⟨i, hi⟩ := List.getElem?_of_mem hp
    have key : ∀ i : Nat, (∃ q : Rat × Nat, ps[i]? = some q ∧ q.2 = p.2) → ∃ (j : Nat) (q : Rat × Nat), ps[j]? = some q ∧ q.2 = p.2 ∧ ∀ k : Nat, k < j → ∀ r : Rat × Nat, ps[k]? = some r → r.2 ≠ p.2 := by
      intro i
      induction i using Nat.strongRecOn with
      | ind i ih =>
        rintro ⟨q, hq, e⟩
        by_cases c : ∃ k : Nat, k < i ∧ ∃ r : Rat × Nat, ps[k]? = some r ∧ r.2 = p.2
        · obtain ⟨k, hk, r, hr, er⟩ := c
          exact ih k hk ⟨r, hr, er⟩
        · exact ⟨i, q, hq, e, fun k hk r hr er => c ⟨k, hk, r, hr, er⟩⟩
    obtain ⟨j, q, hq, e, hf⟩ := key i ⟨p, hi, rfl⟩
    have hj := (List.getElem?_eq_some_iff.mp hq).1
    refine List.mem_map.mpr ⟨(j, q), List.mem_filter.mpr ⟨?_, ?_⟩, by show (q.2 : Int) = _; rw [e]⟩
    · unfold enumN
      refine List.mem_map.mpr ⟨(q, j), ?_, rfl⟩
      rw [List.mem_zipIdx_iff_getElem?]
      exact hq
    · simp only [Bool.not_eq_true', decide_eq_false_iff_not]
      intro hm
      obtain ⟨r, hr, er⟩ := List.mem_map.mp hm
      obtain ⟨k, hk⟩ := List.getElem?_of_mem hr
      rw [List.getElem?_take] at hk
      split at hk
      · rename_i hlt
        exact hf k hlt r hk (by have : (r.2 : Int) = (q.2 : Int) := er
                                omega)
      · cases hk
theorem jw_nodup (ps : LGu) : (jwL ps).Nodup := by
  unfold jwL
  -- by the list of places
  have h1 : ((enumN ps).filter fun p => !decide ((p.2.2 : Int) ∈ (ps.take p.1).map fun q => (q.2 : Int))).Pairwise fun a b => (a.2.2 : Int) ≠ (b.2.2 : Int) := by
    have h0 : (enumN ps).Pairwise fun a b => a.1 < b.1 := by
      rw [List.pairwise_iff_getElem]
      intro i j hi hj hij
      have e1 := (enumN_get (List.getElem?_eq_getElem hi)).1
      have e2 := (enumN_get (List.getElem?_eq_getElem hj)).1
      omega
    refine (List.Pairwise.filter _ h0).imp_of_mem ?_
    intro a b ha hb hab e
    obtain ⟨ma, fa⟩ := List.mem_filter.mp ha
    obtain ⟨mb, fb⟩ := List.mem_filter.mp hb
    simp only [Bool.not_eq_true', decide_eq_false_iff_not] at fb
    obtain ⟨l1, g1⟩ := mem_enumN ma
    refine fb (List.mem_map.mpr ⟨a.2, ?_, e⟩)
    exact List.mem_of_getElem? (i := a.1) (by rw [List.getElem?_take, if_pos hab]; exact g1)
  rw [List.nodup_iff_pairwise_ne, List.pairwise_map]
  exact h1
theorem S_group {f : Int → Rat} : ∀ (ns : List Int) (ps : LGu), ns.Nodup → (∀ p ∈ ps, (p.2 : Int) ∈ ns) → S ns (fun n => sumR ((ps.filter fun q => decide ((q.2 : Int) = n)).map fun q => q.1) * f n) = S ps fun p => p.1 * f (p.2 : Int)
  | ns, [], _, _ => by
    rw [S_nil]
    exact S_zero' fun n _ => by show sumR [] * f n = 0; unfold sumR; rw [List.foldl_nil]; grind
  | ns, p :: ps, hn, hm => by
    rw [S_cons, ← S_group ns ps hn fun q hq => hm q (by simp [hq])]
    have e : ∀ n, sumR (((p :: ps).filter fun q => decide ((q.2 : Int) = n)).map fun q => q.1) * f n = (if n = (p.2 : Int) then p.1 * f (p.2 : Int) else 0) + sumR ((ps.filter fun q => decide ((q.2 : Int) = n)).map fun q => q.1) * f n := fun n => by
      rw [List.filter_cons]
      by_cases h : (p.2 : Int) = n
      · rw [if_pos (by simpa using h), if_pos h.symm, List.map_cons, sumR_S, S_cons, ← sumR_S, h]
        grind
      · rw [if_neg (by simpa using h), if_neg (fun q => h q.symm)]
        grind
    rw [S_congr fun n _ => e n, S_add]
    congr 1
    have one : ∀ ns : List Int, ns.Nodup → (p.2 : Int) ∈ ns → S ns (fun n => if n = (p.2 : Int) then p.1 * f (p.2 : Int) else 0) = p.1 * f (p.2 : Int) := by
      intro ns
      induction ns with
      | nil => intro _ h; simp at h
      | cons m ns ih =>
        intro hn hm
        rw [S_cons]
        obtain ⟨n1, n2⟩ := List.nodup_cons.mp hn
        by_cases e : m = (p.2 : Int)
        · subst e
          rw [if_pos rfl, S_zero' fun n hn' => if_neg fun q => n1 (by rw [← q]; exact hn')]
          grind
        · rw [if_neg e, ih n2 (by
            rcases List.mem_cons.mp hm with q | q
            · exact absurd q.symm e
            · exact q)]
          grind
    exact one ns hn (hm p (by simp))
theorem join_S (ps : LGu) (f : Nat → Rat) : S (joinN ps) (fun p => p.1 * f p.2) = S ps fun p => p.1 * f p.2 := by
  unfold joinN joinI
  rw [S_map, S_map]
  have h := S_group (f := fun n => f n.toNat) (srtI (jwL ps)) ps ((srtI_perm _).nodup_iff.mpr (jw_nodup ps)) (fun p hp => (srtI_perm _).mem_iff.mpr (jw_mem.mpr ⟨p, hp, rfl⟩))
  exact h
/-! ### the core -/
structure MdC (D l W : Nat) (g : LGu) : Prop where
  ne : g ≠ []
  len : g.length ≤ l
  pos : ∀ p ∈ g, 0 < p.1
  inc : g.Pairwise fun p q => p.2 < q.2
  one : S g (fun p => p.1) = 1
  mean : S g (fun p => p.1 * ((p.2 : Int) : Rat)) = 12
  wb : ∀ p ∈ g, p.2 ≤ W
  den : ∃ d, 0 < d ∧ d ≤ D ∧ ∀ p ∈ g, Qd d d p.1
theorem MdC.up {D l W D' l' W' : Nat} {g : LGu} (h : MdC D l W g) (h1 : D ≤ D') (h2 : l ≤ l') (h3 : W ≤ W') : MdC D' l' W' g := by
  obtain ⟨a, b, c, d, e, f, i, k, k0, k1, k2⟩ := h
  exact ⟨a, by omega, c, d, e, f, fun p hp => Nat.le_trans (i p hp) h3, k, k0, by omega, k2⟩
theorem mdc_one : MdC 1 1 12 gOne := by
  refine ⟨by unfold gOne; simp, by unfold gOne; simp, ?_, by unfold gOne; simp, ?_, ?_, ?_, 1, by decide, by decide, ?_⟩
  · intro p hp
    unfold gOne at hp
    rw [List.mem_singleton.mp hp]
    decide
  · unfold gOne; rw [S_cons, S_nil]; decide +kernel
  · unfold gOne; rw [S_cons, S_nil]; decide +kernel
  · intro p hp
    unfold gOne at hp
    rw [List.mem_singleton.mp hp]
    decide
  · intro p hp
    unfold gOne at hp
    rw [List.mem_singleton.mp hp]
    exact ⟨1, by decide +kernel, by decide⟩
theorem part_S {p : Rat × Nat} {lo hi : Nat} (h0 : 0 < lo) (h1 : lo ≤ p.2) (f : Nat → Rat) :
    S (partUp p lo hi) (fun q => q.1 * f q.2) = p.1 * (Rat.divInt (hi : Int) ((lo : Int) + hi) * f (p.2 - lo) + Rat.divInt (lo : Int) ((lo : Int) + hi) * f (p.2 + hi)) := by
  unfold partUp
  rw [S_cons, S_cons, S_nil]
  grind
structure Frac (lo hi : Nat) (a b : Rat) : Prop where
  a0 : 0 < a
  b0 : 0 < b
  ab : a + b = 1
  bal : a * ((lo : Int) : Rat) = b * ((hi : Int) : Rat)
theorem frac_core {x y : Rat} (p0 : 0 < x) (p1 : 0 < y) : 0 < y / (x + y) ∧ 0 < x / (x + y) ∧ y / (x + y) + x / (x + y) = 1 ∧ y / (x + y) * x = x / (x + y) * y := by
  have hs : 0 < x + y := by grind
  have i0 := Rat.inv_pos.mpr hs
  have i1 : (x + y) * (x + y)⁻¹ = 1 := Rat.mul_inv_cancel _ (by grind)
  rw [Rat.div_def, Rat.div_def]
  exact ⟨Rat.mul_pos p1 i0, Rat.mul_pos p0 i0, by grind, by grind⟩
theorem frac_of {lo hi : Nat} (h0 : 0 < lo) (h1 : 0 < hi) : Frac lo hi (Rat.divInt (hi : Int) ((lo : Int) + hi)) (Rat.divInt (lo : Int) ((lo : Int) + hi)) := by
  rw [Rat.divInt_eq_div, Rat.divInt_eq_div, Rat.intCast_add]
  have p0 : (0 : Rat) < ((lo : Int) : Rat) := by
    have : ((0 : Int) : Rat) < ((lo : Int) : Rat) := Rat.intCast_lt_intCast.mpr (by omega)
    exact this
  have p1 : (0 : Rat) < ((hi : Int) : Rat) := by
    have : ((0 : Int) : Rat) < ((hi : Int) : Rat) := Rat.intCast_lt_intCast.mpr (by omega)
    exact this
  obtain ⟨a, b, c, d⟩ := frac_core p0 p1
  exact ⟨a, b, c, d⟩
theorem natSub {w lo : Nat} (h : lo ≤ w) : (((w - lo : Nat) : Int) : Rat) = ((w : Int) : Rat) - ((lo : Int) : Rat) := by
  rw [← Rat.intCast_sub]
  congr 1
  omega
theorem natAdd {w hi : Nat} : (((w + hi : Nat) : Int) : Rat) = ((w : Int) : Rat) + ((hi : Int) : Rat) := by
  rw [← Rat.intCast_add]
  congr 1
/-- what of a part stays, what grows -/
theorem Opt.facts {p : Rat × Nat} {l : LGu} (h : Opt p l) (hp : 0 < p.1) : (∀ q ∈ l, 0 < q.1) ∧ S l (fun q => q.1) = p.1 ∧ S l (fun q => q.1 * ((q.2 : Int) : Rat)) = p.1 * ((p.2 : Int) : Rat) ∧ (∀ x, p.1 * pp (((p.2 : Int) : Rat) - x) ≤ Al l x) ∧ (∀ q ∈ l, q.2 ≤ p.2 + 12) ∧ l ≠ [] ∧ ∀ d, 0 < d → Qd d d p.1 → p.1 ≤ 1 → ∃ k, 0 < k ∧ k ≤ 24 ∧ ∀ q ∈ l, ∃ N, Qd (d * k) N q.1 := by
  rcases h with rfl | ⟨lo, hi, h0, h1, h2, h3, rfl⟩
  · refine ⟨fun q hq => by rw [List.mem_singleton.mp hq]; exact hp, by rw [S_cons, S_nil]; grind, by rw [S_cons, S_nil]; grind, fun x => ?_, fun q hq => by rw [List.mem_singleton.mp hq]; omega, by simp, fun d hd q _ => ⟨1, by decide, by decide, fun r hr => ?_⟩⟩
    · unfold Al
      rw [S_cons, S_nil]
      grind
    · rw [List.mem_singleton.mp hr]
      exact ⟨_, q.up 1⟩
  · have hh := h3.le
    have F := frac_of (lo := lo) (hi := hi) h0 (by omega)
    obtain ⟨a0, b0, ab, bal⟩ := id F
    have e1 := fun f => part_S (p := p) (hi := hi) h0 h1 f
    have hsum : 0 < lo + hi := by omega
    refine ⟨fun q hq => ?_, ?_, ?_, fun x => ?_, fun q hq => ?_, by unfold partUp; simp, fun d hd q hp1 => ⟨lo + hi, hsum, by omega, fun r hr => ?_⟩⟩
    · unfold partUp at hq
      rcases List.mem_cons.mp hq with rfl | hq
      · exact Rat.mul_pos hp a0
      · rw [List.mem_singleton.mp hq]
        exact Rat.mul_pos hp b0
    · have := e1 fun _ => 1
      rw [S_congr (g := fun q => q.1) fun q _ => by grind] at this
      rw [this]
      grind
    · rw [e1 fun n => ((n : Int) : Rat), natSub h1, natAdd]
      generalize Rat.divInt (hi : Int) ((lo : Int) + hi) = a at *
      generalize Rat.divInt (lo : Int) ((lo : Int) + hi) = b at *
      grind
    · have e2 := e1 fun n => pp (((n : Int) : Rat) - x)
      show _ ≤ S (partUp p lo hi) fun q => q.1 * pp (((q.2 : Int) : Rat) - x)
      rw [e2, natSub h1, natAdd]
      have c := pp_cvx (y := 0) (x := x - ((p.2 : Int) : Rat)) (a := x - (((p.2 : Int) : Rat) - ((lo : Int) : Rat))) (b := x - (((p.2 : Int) : Rat) + ((hi : Int) : Rat))) (s := Rat.divInt (lo : Int) ((lo : Int) + hi)) (by grind) (by grind) (by
        generalize Rat.divInt (hi : Int) ((lo : Int) + hi) = a at *
        generalize Rat.divInt (lo : Int) ((lo : Int) + hi) = b at *
        grind)
      generalize Rat.divInt (hi : Int) ((lo : Int) + hi) = a at *
      generalize Rat.divInt (lo : Int) ((lo : Int) + hi) = b at *
      rw [show (0 : Rat) - (x - ((p.2 : Int) : Rat)) = ((p.2 : Int) : Rat) - x by grind, show (0 : Rat) - (x - (((p.2 : Int) : Rat) - ((lo : Int) : Rat))) = ((p.2 : Int) : Rat) - ((lo : Int) : Rat) - x by grind, show (0 : Rat) - (x - (((p.2 : Int) : Rat) + ((hi : Int) : Rat))) = ((p.2 : Int) : Rat) + ((hi : Int) : Rat) - x by grind, show (1 : Rat) - b = a by grind] at c
      have := Rat.mul_nonneg (Rat.le_of_lt hp) (show 0 ≤ a * pp (((p.2 : Int) : Rat) - ((lo : Int) : Rat) - x) + b * pp (((p.2 : Int) : Rat) + ((hi : Int) : Rat) - x) - pp (((p.2 : Int) : Rat) - x) by grind)
      grind
    · unfold partUp at hq
      rcases List.mem_cons.mp hq with rfl | hq
      · show p.2 - lo ≤ _
        omega
      · rw [List.mem_singleton.mp hq]
        show p.2 + hi ≤ _
        omega
    · have fr : ∀ n : Nat, Qd (lo + hi) n (Rat.divInt (n : Int) ((lo : Int) + hi)) := fun n => by
        refine ⟨(n : Int), ?_, by simp⟩
        rw [Rat.divInt_eq_div]
        have e : (((lo : Int) + (hi : Int) : Int) : Rat) = ((lo + hi : Nat) : Rat) := by
          show _ = (((lo + hi : Nat) : Int) : Rat)
          congr 1
        rw [e, Rat.div_mul_cancel (by rw [Ne, Rat.natCast_eq_zero_iff]; omega)]
      unfold partUp at hr
      rcases List.mem_cons.mp hr with rfl | hr
      · exact ⟨_, q.mul (fr hi)⟩
      · rw [List.mem_singleton.mp hr]
        exact ⟨_, q.mul (fr lo)⟩
end Gw
/-! Plain: stretches of masses laid one behind another. -/
namespace Gw
/-- where e lies in the stretch of c from b on -/
def ph (b c e : Rat) : Rat := if e ≤ b then b else if e ≤ b + c then e else b + c
def Em (m : Nat → Rat) (j : Nat) : Rat := S (List.range j) m
def tk (m : Nat → Rat) (b c : Rat) (j : Nat) : Rat := ph b c (Em m (j + 1)) - ph b c (Em m j)
theorem Em_succ (m : Nat → Rat) (j : Nat) : Em m (j + 1) = Em m j + m j := by
  unfold Em
  rw [List.range_succ, S_app, S_cons, S_nil]
  grind
theorem Em_zero (m : Nat → Rat) : Em m 0 = 0 := rfl
section
variable {n : Nat} {m v : Nat → Rat} {b c : Rat}
theorem Em_le (h : ∀ j, j < n → 0 ≤ m j) {i j : Nat} (hij : i ≤ j) (hj : j ≤ n) : Em m i ≤ Em m j := by
  induction j with
  | zero => have : i = 0 := by omega
            subst this; grind
  | succ j ih =>
    by_cases e : i = j + 1
    · subst e; grind
    · have := ih (by omega) (by omega)
      have := h j (by omega)
      rw [Em_succ]
      grind
theorem ph_mono {e f : Rat} (hc : 0 ≤ c) (h : e ≤ f) : ph b c e ≤ ph b c f := by unfold ph; grind
theorem ph_lip {e f : Rat} (hc : 0 ≤ c) (h : e ≤ f) : ph b c f - ph b c e ≤ f - e := by unfold ph; grind
theorem tk_nn (h : ∀ j, j < n → 0 ≤ m j) (hc : 0 ≤ c) {j : Nat} (hj : j < n) : 0 ≤ tk m b c j := by
  have := ph_mono (b := b) hc (Em_le h (Nat.le_succ j) (Nat.succ_le_of_lt hj))
  show 0 ≤ _ - _
  grind
theorem tk_le (h : ∀ j, j < n → 0 ≤ m j) (hc : 0 ≤ c) {j : Nat} (hj : j < n) : tk m b c j ≤ m j := by
  have h1 := ph_lip (b := b) hc (Em_le h (Nat.le_succ j) (Nat.succ_le_of_lt hj))
  have h2 := Em_succ m j
  show _ - _ ≤ _
  grind
theorem tk_sum (hc : 0 ≤ c) (h0 : 0 ≤ b) (h1 : b + c ≤ Em m n) : S (List.range n) (tk m b c) = c := by
  have e : ∀ k, S (List.range k) (tk m b c) = ph b c (Em m k) - ph b c 0 := fun k => by
    induction k with
    | zero => rw [List.range_zero, S_nil, Em_zero]; grind
    | succ k ih =>
      rw [List.range_succ, S_app, S_cons, S_nil, ih]
      unfold tk
      grind
  rw [e]
  unfold ph
  grind
theorem ex_lo {f : Nat → Rat} {x : Rat} (h0 : f 0 ≤ x) (h1 : x < f n) : ∃ a, a < n ∧ f a ≤ x ∧ x < f (a + 1) := by
  induction n with
  | zero => grind
  | succ n ih =>
    by_cases e : f n ≤ x
    · exact ⟨n, by omega, e, h1⟩
    · obtain ⟨a, h2, h3⟩ := ih (by grind)
      exact ⟨a, by omega, h3⟩
theorem ex_hi {f : Nat → Rat} {x : Rat} (h0 : f 0 < x) (h1 : x ≤ f n) : ∃ a, a < n ∧ f a < x ∧ x ≤ f (a + 1) := by
  induction n with
  | zero => grind
  | succ n ih =>
    by_cases e : f n < x
    · exact ⟨n, by omega, e, h1⟩
    · obtain ⟨a, h2, h3⟩ := ih (by grind)
      exact ⟨a, by omega, h3⟩
theorem tk_con (h : ∀ j, j < n → 0 ≤ m j) (hc : 0 < c) (h0 : 0 ≤ b) (h1 : b + c ≤ Em m n) : ∃ a z, a < n ∧ z < n ∧ a ≤ z ∧ (∀ j, j < a → tk m b c j = 0) ∧ (∀ j, z < j → j < n → tk m b c j = 0) ∧ (∀ j, a < j → j < z → tk m b c j = m j) := by
  obtain ⟨a, ha, a1, a2⟩ := ex_lo (f := Em m) (n := n) (x := b) (by rw [Em_zero]; exact h0) (by grind)
  obtain ⟨z, hz, z1, z2⟩ := ex_hi (f := Em m) (n := n) (x := b + c) (by rw [Em_zero]; grind) h1
  refine ⟨a, z, ha, hz, ?_, fun j hj => ?_, fun j hj hn => ?_, fun j hj hjz => ?_⟩
  · rcases Nat.lt_or_ge z a with q | q
    · have := Em_le h (show z + 1 ≤ a from q) (by omega)
      grind
    · exact q
  · have q1 := Em_le h (show j + 1 ≤ a from hj) (by omega)
    have q2 := Em_le h (show j ≤ a by omega) (by omega)
    unfold tk ph
    grind
  · have q1 := Em_le h (show z + 1 ≤ j from hj) (by omega)
    have q2 := Em_le h (show z + 1 ≤ j + 1 by omega) (by omega)
    unfold tk ph
    grind
  · have q1 := Em_le h (show a + 1 ≤ j from hj) (by omega)
    have q2 := Em_le h (show j + 1 ≤ z from hjz) (by omega)
    have q3 := Em_succ m j
    have q4 := h j (by omega)
    unfold tk ph
    grind
/-- what a stretch is worth -/
def Wt (n : Nat) (m v : Nat → Rat) (c b : Rat) : Rat := S (List.range n) fun j => tk m b c j * v j
theorem str_of {w : Rat} (h : ∀ j, j < n → 0 ≤ m j) (hc : 0 < c) (h0 : 0 ≤ b) (h1 : b + c ≤ Em m n) (hw : Wt n m v c b = c * w) : Str81 n m v (tk m b c) c w :=
  ⟨hc, fun j hj => tk_nn h (by grind) hj, fun j hj => tk_le h (by grind) hj, tk_sum (by grind) h0 h1, hw, tk_con h hc h0 h1⟩
theorem Ab_one {g : List (Rat × Rat)} {p : Rat × Rat} (hg : ∀ q ∈ g, 0 < q.1) (hp : p ∈ g) (x : Rat) : p.1 * pp (p.2 - x) ≤ Ab g x :=
  S_le (f := fun q : Rat × Rat => q.1 * pp (q.2 - x)) (fun q hq => Rat.mul_nonneg (by have := hg q hq; grind) (pp_nn _)) hp
/-- below x -/
theorem Ab_one' {g : List (Rat × Rat)} {p : Rat × Rat} (hg : ∀ q ∈ g, 0 < q.1) (hp : p ∈ g) (x : Rat) : p.1 * (x - p.2) ≤ Ab g x - (S g fun q => q.1 * q.2) + (S g fun q => q.1) * x := by
  have h1 : p.1 * (pp (p.2 - x) - (p.2 - x)) ≤ S g fun q => q.1 * (pp (q.2 - x) - (q.2 - x)) := S_le (f := fun q : Rat × Rat => q.1 * (pp (q.2 - x) - (q.2 - x))) (fun q hq => Rat.mul_nonneg (by have := hg q hq; grind) (by have := pp_ge (q.2 - x); grind)) hp
  have e : (S g fun q => q.1 * (pp (q.2 - x) - (q.2 - x))) = Ab g x - (S g fun q => q.1 * q.2) + (S g fun q => q.1) * x := by
    unfold Ab
    rw [← S_mulr, ← S_sub, ← S_add]
    exact S_congr fun q _ => by grind
  rw [e] at h1
  have h2 := Rat.mul_nonneg (show 0 ≤ p.1 by have := hg p hp; grind) (pp_nn (p.2 - x))
  grind
theorem W_lo {p : Rat × Rat} {g : List (Rat × Rat)} (h : Inv81 n m v g) (hv : ∀ i j, i ≤ j → j < n → v i ≤ v j) (hp : p ∈ g) : Wt n m v p.1 0 ≤ p.1 * p.2 := by
  obtain ⟨hnn, hgn, htot, hmean, hcx⟩ := h
  have c0 := hgn p hp
  have hcE : p.1 ≤ Em m n := by
    show p.1 ≤ S _ m
    rw [htot]
    exact S_le (f := fun q : Rat × Rat => q.1) (fun q hq => by have := hgn q hq; grind) hp
  obtain ⟨z, hz, z1, z2⟩ := ex_hi (f := Em m) (n := n) (x := p.1) (by rw [Em_zero]; exact c0) hcE
  have ts := tk_sum (m := m) (n := n) (b := 0) (c := p.1) (by grind) (by grind) (by grind)
  have e1 : (S (List.range n) fun j => tk m 0 p.1 j * (v z - v j)) = S (List.range n) fun j => m j * (pp (v j - v z) - (v j - v z)) := by
    refine S_congr fun j hj => ?_
    have hj := List.mem_range.mp hj
    have p0 := Em_le hnn (Nat.zero_le j) (by omega)
    rw [Em_zero] at p0
    have ps := Em_succ m j
    have pn := hnn j hj
    rcases Nat.lt_trichotomy j z with q | q | q
    · have q1 := Em_le hnn (show j + 1 ≤ z from q) (by omega)
      have et : tk m 0 p.1 j = m j := by unfold tk ph; grind
      have q2 := hv j z (by omega) hz
      rw [et, pp_neg (show v j - v z ≤ 0 by grind)]
      grind
    · subst q
      rw [pp_neg (show v j - v j ≤ 0 by grind)]
      grind
    · have q1 := Em_le hnn (show z + 1 ≤ j from q) (by omega)
      have et : tk m 0 p.1 j = 0 := by unfold tk ph; grind
      have q2 := hv z j (by omega) hj
      rw [et, pp_pos (show 0 ≤ v j - v z by grind)]
      grind
  have e2 : (S (List.range n) fun j => tk m 0 p.1 j * (v z - v j)) = p.1 * v z - Wt n m v p.1 0 := by
    unfold Wt
    rw [← ts, ← S_mulr, ← S_sub, ts]
    exact S_congr fun j _ => by grind
  have e3 : (S (List.range n) fun j => m j * (pp (v j - v z) - (v j - v z))) = Cv n m v (v z) - (S g fun q => q.1 * q.2) + (S g fun q => q.1) * v z := by
    unfold Cv
    rw [← hmean, ← htot, ← S_mulr, ← S_sub, ← S_add]
    exact S_congr fun j _ => by grind
  have h1 := Ab_one' hgn hp (v z)
  have h2 := hcx (v z)
  grind
theorem W_hi {p : Rat × Rat} {g : List (Rat × Rat)} (h : Inv81 n m v g) (hv : ∀ i j, i ≤ j → j < n → v i ≤ v j) (hp : p ∈ g) : p.1 * p.2 ≤ Wt n m v p.1 (Em m n - p.1) := by
  obtain ⟨hnn, hgn, htot, hmean, hcx⟩ := h
  have c0 := hgn p hp
  have hcE : p.1 ≤ Em m n := by
    show p.1 ≤ S _ m
    rw [htot]
    exact S_le (f := fun q : Rat × Rat => q.1) (fun q hq => by have := hgn q hq; grind) hp
  obtain ⟨a, ha, a1, a2⟩ := ex_lo (f := Em m) (n := n) (x := Em m n - p.1) (by rw [Em_zero]; grind) (by grind)
  have ts := tk_sum (m := m) (n := n) (b := Em m n - p.1) (c := p.1) (by grind) (by grind) (by grind)
  have e1 : (S (List.range n) fun j => tk m (Em m n - p.1) p.1 j * (v j - v a)) = S (List.range n) fun j => m j * pp (v j - v a) := by
    refine S_congr fun j hj => ?_
    have hj := List.mem_range.mp hj
    have p0 := Em_le hnn (show j + 1 ≤ n from hj) (by omega)
    have ps := Em_succ m j
    have pn := hnn j hj
    rcases Nat.lt_trichotomy j a with q | q | q
    · have q1 := Em_le hnn (show j + 1 ≤ a from q) (by omega)
      have et : tk m (Em m n - p.1) p.1 j = 0 := by unfold tk ph; grind
      have q2 := hv j a (by omega) ha
      rw [et, pp_neg (show v j - v a ≤ 0 by grind)]
      grind
    · subst q
      rw [pp_neg (show v j - v j ≤ 0 by grind)]
      grind
    · have q1 := Em_le hnn (show a + 1 ≤ j from q) (by omega)
      have et : tk m (Em m n - p.1) p.1 j = m j := by unfold tk ph; grind
      have q2 := hv a j (by omega) hj
      rw [et, pp_pos (show 0 ≤ v j - v a by grind)]
  have e2 : (S (List.range n) fun j => tk m (Em m n - p.1) p.1 j * (v j - v a)) = Wt n m v p.1 (Em m n - p.1) - p.1 * v a := by
    unfold Wt
    rw [← ts, ← S_mulr, ← S_sub, ts]
    exact S_congr fun j _ => by grind
  have h1 := Ab_one hgn hp (v a)
  have h2 := hcx (v a)
  have h3 := Rat.mul_nonneg (show 0 ≤ p.1 by grind) (show 0 ≤ pp (p.2 - v a) - (p.2 - v a) by have := pp_ge (p.2 - v a); grind)
  have e3 : (S (List.range n) fun j => m j * pp (v j - v a)) = Cv n m v (v a) := rfl
  grind
/-! ### between two bends -/
def Bnd (n : Nat) (m : Nat → Rat) (c x y : Rat) : Prop := ∀ j, j ≤ n → (Em m j ≤ x ∨ y ≤ Em m j) ∧ (Em m j - c ≤ x ∨ y ≤ Em m j - c)
theorem ph_lin {x y s e : Rat} (hc : 0 ≤ c) (hxy : x ≤ y) (s0 : 0 ≤ s) (s1 : s ≤ 1) (h1 : e ≤ x ∨ y ≤ e) (h2 : e - c ≤ x ∨ y ≤ e - c) : ph (x + s * (y - x)) c e = ph x c e + s * (ph y c e - ph x c e) := by
  have d0 := Rat.mul_nonneg s0 (show 0 ≤ y - x by grind)
  have d1 := Rat.mul_nonneg (show 0 ≤ 1 - s by grind) (show 0 ≤ y - x by grind)
  obtain ⟨d, hd⟩ : ∃ d, d = s * (y - x) := ⟨_, rfl⟩
  have d2 : d ≤ y - x := by grind
  rw [← hd] at d0 ⊢
  rcases h1 with h1 | h1
  · have e1 : ph (x + d) c e = x + d := by unfold ph; grind
    have e2 : ph x c e = x := by unfold ph; grind
    have e3 : ph y c e = y := by unfold ph; grind
    rw [e1, e2, e3, ← hd]
  · rcases h2 with h2 | h2
    · have e1 : ph (x + d) c e = e := by unfold ph; grind
      have e2 : ph x c e = e := by unfold ph; grind
      have e3 : ph y c e = e := by unfold ph; grind
      rw [e1, e2, e3]
      grind
    · have e1 : ph (x + d) c e = x + d + c := by unfold ph; grind
      have e2 : ph x c e = x + c := by unfold ph; grind
      have e3 : ph y c e = y + c := by unfold ph; grind
      rw [e1, e2, e3]
      grind
theorem W_lin {x y s : Rat} (hc : 0 ≤ c) (hxy : x ≤ y) (s0 : 0 ≤ s) (s1 : s ≤ 1) (h : Bnd n m c x y) : Wt n m v c (x + s * (y - x)) = Wt n m v c x + s * (Wt n m v c y - Wt n m v c x) := by
  unfold Wt
  rw [← S_sub, ← S_mul, ← S_add]
  refine S_congr fun j hj => ?_
  have hj := List.mem_range.mp hj
  have a1 := ph_lin (c := c) hc hxy s0 s1 (h j (by omega)).1 (h j (by omega)).2
  have a2 := ph_lin (c := c) hc hxy s0 s1 (h (j + 1) (by omega)).1 (h (j + 1) (by omega)).2
  unfold tk
  rw [a1, a2]
  grind
end
end Gw
/-! Plain: the program's stretches are stretches. -/
namespace Gw
def fm (ms : List Rat) (j : Nat) : Rat := ms[j]!
def fw (o : List (Rat × Rat)) (j : Nat) : Rat := (o[j]!).2
theorem endsL_len (ms : List Rat) : (endsL ms).length = ms.length + 1 := by simp [endsL]
theorem sumR_take (ms : List Rat) {i : Nat} (h : i ≤ ms.length) : sumR (ms.take i) = Em (fm ms) i := by
  rw [sumR_S, S_range, List.length_take, Nat.min_eq_left h]
  refine S_congr fun j hj => ?_
  have hj := List.mem_range.mp hj
  show (ms.take i)[j]! = ms[j]!
  rw [getElem!_pos _ j (by rw [List.length_take]; omega), getElem!_pos ms j (by omega), List.getElem_take]
theorem endsL_eq (ms : List Rat) : endsL ms = (List.range (ms.length + 1)).map (Em (fm ms)) := by
  unfold endsL
  refine List.map_congr_left fun i hi => ?_
  exact sumR_take ms (by have := List.mem_range.mp hi; omega)
theorem endsL_last (ms : List Rat) : (endsL ms)[(endsL ms).length - 1]! = Em (fm ms) ms.length := by
  rw [endsL_eq]
  simp
theorem range_zip_drop (n : Nat) (f : Nat → Rat) : ((List.range (n + 1)).map f).zip (((List.range (n + 1)).map f).drop 1) = (List.range n).map fun j => (f j, f (j + 1)) := by
  apply List.ext_getElem
  · simp
  · intro i h1 h2
    simp [Nat.add_comm]
theorem taken_ph {b c l h : Rat} (hc : 0 ≤ c) (hl : l ≤ h) : takenR b c (l, h) = ph b c h - ph b c l := by
  unfold takenR grR lsR ph
  grind
theorem takenL_eq {ms : List Rat} {b c : Rat} (hn : ∀ j, j < ms.length → 0 ≤ fm ms j) (hc : 0 ≤ c) : takenL (endsL ms) b c = (List.range ms.length).map (tk (fm ms) b c) := by
  unfold takenL
  rw [endsL_eq, range_zip_drop, List.map_map]
  refine List.map_congr_left fun j hj => ?_
  have hj := List.mem_range.mp hj
  exact taken_ph hc (Em_le hn (Nat.le_succ j) hj)
theorem range_zip {α : Type} [Inhabited α] (f : Nat → Rat) (o : List α) : ((List.range o.length).map f).zip o = (List.range o.length).map fun j => (f j, o[j]!) := by
  apply List.ext_getElem
  · simp
  · intro i h1 h2
    have h3 : i < o.length := by simpa using h2
    simp [h3]
theorem worthR_eq {f : Nat → Rat} {o : List (Rat × Rat)} : worthR ((List.range o.length).map f) o = S (List.range o.length) fun j => f j * fw o j := by
  unfold worthR
  rw [range_zip, List.map_map, sumR_S, S_map]
  rfl
theorem tkW_eq {ms : List Rat} {o : List (Rat × Rat)} {b c : Rat} (hl : ms.length = o.length) (hn : ∀ j, j < ms.length → 0 ≤ fm ms j) (hc : 0 ≤ c) : tkW (endsL ms) o c b = Wt o.length (fm ms) (fw o) c b := by
  unfold tkW
  rw [takenL_eq hn hc, hl, worthR_eq]
  rfl
/-! ### rising lists -/
theorem minL_le {xs : List Rat} : ∀ x ∈ xs, minL xs ≤ x := by
  have h1 : ∀ (xs : List Rat) (a : Rat), xs.foldl lsR a ≤ a ∧ ∀ x ∈ xs, xs.foldl lsR a ≤ x := by
    intro xs
    induction xs with
    | nil => intro a; exact ⟨by show a ≤ a; grind, fun x hx => by simp at hx⟩
    | cons y ys ih =>
      intro a
      obtain ⟨k1, k2⟩ := ih (lsR a y)
      have k3 : lsR a y ≤ a ∧ lsR a y ≤ y := by unfold lsR; split <;> constructor <;> grind
      rw [List.foldl_cons]
      refine ⟨by grind, fun x hx => ?_⟩
      rcases List.mem_cons.mp hx with rfl | hx
      · grind
      · exact k2 x hx
  exact (h1 xs xs[0]!).2
theorem risL_spec : ∀ (n : Nat) (xs : List Rat), xs.length ≤ n → (∀ x, x ∈ risL n xs ↔ x ∈ xs) ∧ (risL n xs).Pairwise (· < ·)
  | 0, xs, h => by
    have : xs = [] := List.length_eq_zero_iff.mp (by omega)
    subst this
    exact ⟨fun x => Iff.rfl, .nil⟩
  | n + 1, xs, h => by
    by_cases e : xs = []
    · subst e
      rw [risL_nil]
      exact ⟨fun x => Iff.rfl, .nil⟩
    · have hm := minL_mem e
      have hf := filter_lt (f := fun x => !decide (x = minL xs)) hm (by simp)
      obtain ⟨k1, k2⟩ := risL_spec n (xs.filter fun x => !decide (x = minL xs)) (by omega)
      have er : risL (n + 1) xs = minL xs :: risL n (xs.filter fun x => !decide (x = minL xs)) := by
        show (if xs = [] then [] else _) = _
        rw [if_neg e]
      rw [er]
      refine ⟨fun x => ?_, List.pairwise_cons.mpr ⟨fun x hx => ?_, k2⟩⟩
      · rw [List.mem_cons, k1, List.mem_filter]
        constructor
        · rintro (rfl | h)
          · exact hm
          · exact h.1
        · intro hx
          by_cases q : x = minL xs
          · exact .inl q
          · exact .inr ⟨hx, by simpa using q⟩
      · have := List.mem_filter.mp ((k1 x).mp hx)
        have h1 := minL_le x this.1
        have h2 : x ≠ minL xs := by simpa using this.2
        grind
theorem begins_spec (es : List Rat) (m : Rat) : (∀ x, x ∈ beginsL es m ↔ x ∈ keptL es m) ∧ (beginsL es m).Pairwise (· < ·) :=
  risL_spec _ _ (by rw [← candL_len es m]; exact List.length_filter_le _ _)
theorem mem_kept {es : List Rat} {m x : Rat} : x ∈ keptL es m ↔ (x = 0 ∨ ∃ e ∈ es, x = e ∨ x = e - m) ∧ 0 ≤ x ∧ x ≤ es[es.length - 1]! - m := by
  unfold keptL
  rw [List.mem_filter]
  simp only [Bool.and_eq_true, decide_eq_true_eq]
  refine and_congr_left fun _ => ⟨candL_mem, fun h => ?_⟩
  unfold candL
  rcases h with rfl | ⟨e, he, h⟩
  · exact List.mem_cons_self ..
  · refine List.mem_cons_of_mem _ (List.mem_flatten.mpr ⟨_, List.mem_map.mpr ⟨e, he, rfl⟩, ?_⟩)
    rcases h with rfl | rfl <;> simp
/-! ### the stretch found -/
/-- where it begins: at a bend, or between two -/
def AtB (es : List Rat) (o : List (Rat × Rat)) (m g b : Rat) : Prop := b ∈ beginsL es m ∨ ∃ x y, x ∈ beginsL es m ∧ y ∈ beginsL es m ∧ tkW es o m x ≠ tkW es o m y ∧ b = x + shR es o m g x y * (y - x)
structure StF (es : List Rat) (o : List (Rat × Rat)) (m g b : Rat) : Prop where
  lo : 0 ≤ b
  hi : b ≤ es[es.length - 1]! - m
  w : tkW es o m b = g
  at_ : AtB es o m g b
section
variable {ms : List Rat} {o : List (Rat × Rat)} {c g : Rat}
theorem strG_spec (hl : ms.length = o.length) (hn : ∀ j, j < ms.length → 0 ≤ fm ms j) (hc : 0 ≤ c) (hg : g ≤ tkW (endsL ms) o c (Em (fm ms) ms.length - c)) :
    ∀ (rest : List Rat) (near : Rat), (near :: rest).Pairwise (· < ·) → (∀ x ∈ near :: rest, x ∈ beginsL (endsL ms) c) → (∀ x ∈ beginsL (endsL ms) c, x ≤ near ∨ x ∈ rest) → tkW (endsL ms) o c near < g →
      ∃ b, StF (endsL ms) o c g b ∧ strG (endsL ms) o c g near rest = takenL (endsL ms) b c
  | [], near, hp, hm, hb, hw => by
    have hnear := mem_kept.mp (((begins_spec _ _).1 near).mp (hm near (by simp)))
    rw [endsL_last] at hnear
    have hl : Em (fm ms) ms.length - c ∈ beginsL (endsL ms) c := ((begins_spec _ _).1 _).mpr (mem_kept.mpr ⟨.inr ⟨Em (fm ms) ms.length, by rw [endsL_eq]; exact List.mem_map.mpr ⟨_, List.mem_range.mpr (Nat.lt_succ_self _), rfl⟩, .inr rfl⟩, by grind, by rw [endsL_last]; grind⟩)
    rcases hb _ hl with q | q
    · have e : near = Em (fm ms) ms.length - c := by grind
      rw [e] at hw
      grind
    · simp at q
  | far :: rest, near, hp, hm, hb, hw => by
    have hnb := hm near (by simp)
    have hfb := hm far (by simp)
    have hnear := mem_kept.mp (((begins_spec _ _).1 near).mp hnb)
    have hfar := mem_kept.mp (((begins_spec _ _).1 far).mp hfb)
    have hnf : near < far := (List.pairwise_cons.mp hp).1 far (by simp)
    by_cases h1 : g ≤ tkW (endsL ms) o c far
    · have hne : tkW (endsL ms) o c near ≠ tkW (endsL ms) o c far := by grind
      have er : strG (endsL ms) o c g near (far :: rest) = takenL (endsL ms) (near + shR (endsL ms) o c g near far * (far - near)) c := by
        rw [strG, if_pos h1, if_neg hne]
      obtain ⟨s, hs⟩ : ∃ s, s = shR (endsL ms) o c g near far := ⟨_, rfl⟩
      have es : s * (tkW (endsL ms) o c far - tkW (endsL ms) o c near) = g - tkW (endsL ms) o c near := by
        rw [hs]
        unfold shR
        rw [Rat.div_mul_cancel (by grind)]
      have hp0 : 0 < tkW (endsL ms) o c far - tkW (endsL ms) o c near := by grind
      have s0 : 0 ≤ s := by
        by_cases y : 0 ≤ s
        · exact y
        · have := Rat.mul_pos (show 0 < -s by grind) hp0
          grind
      have s1 : s ≤ 1 := by
        by_cases y : s ≤ 1
        · exact y
        · have := Rat.mul_pos (show 0 < s - 1 by grind) hp0
          grind
      have out : ∀ x, (∃ j, j ≤ ms.length ∧ (x = Em (fm ms) j ∨ x = Em (fm ms) j - c)) → x ≤ near ∨ far ≤ x := fun x ⟨j, hj, hx⟩ => by
        by_cases q : near < x ∧ x < far
        · have hk : x ∈ beginsL (endsL ms) c := ((begins_spec _ _).1 _).mpr (mem_kept.mpr ⟨.inr ⟨Em (fm ms) j, by rw [endsL_eq]; exact List.mem_map.mpr ⟨j, List.mem_range.mpr (by omega), rfl⟩, hx⟩, by grind, by grind⟩)
          rcases hb x hk with z | z
          · exact .inl z
          · rcases List.mem_cons.mp z with z | z
            · exact .inr (by grind)
            · have := (List.pairwise_cons.mp (List.pairwise_cons.mp hp).2).1 x z
              exact .inr (by grind)
        · grind
      have hB : Bnd ms.length (fm ms) c near far := fun j hj => ⟨out _ ⟨j, hj, .inl rfl⟩, out _ ⟨j, hj, .inr rfl⟩⟩
      have hW := W_lin (v := fw o) hc (by grind) s0 s1 hB
      rw [hl, ← tkW_eq hl hn hc, ← tkW_eq hl hn hc, ← tkW_eq hl hn hc] at hW
      have d0 := Rat.mul_nonneg s0 (show 0 ≤ far - near by grind)
      have d1 := Rat.mul_nonneg (show 0 ≤ 1 - s by grind) (show 0 ≤ far - near by grind)
      rw [← hs] at er
      refine ⟨near + s * (far - near), ⟨by grind, by grind, by rw [hW]; grind, .inr ⟨near, far, hnb, hfb, hne, by rw [hs]⟩⟩, er⟩
    · rw [strG, if_neg h1]
      refine strG_spec hl hn hc hg rest far (List.pairwise_cons.mp hp).2 (fun x hx => hm x (List.mem_cons_of_mem _ hx)) (fun x hx => ?_) (by grind)
      rcases hb x hx with z | z
      · exact .inl (by grind)
      · rcases List.mem_cons.mp z with z | z
        · exact .inl (by grind)
        · exact .inr z
theorem stretch_spec (hl : ms.length = o.length) (hn : ∀ j, j < ms.length → 0 ≤ fm ms j) (hc : 0 ≤ c) (hce : c ≤ Em (fm ms) ms.length) (h0 : tkW (endsL ms) o c 0 ≤ g) (hg : g ≤ tkW (endsL ms) o c (Em (fm ms) ms.length - c)) :
    beginsL (endsL ms) c ≠ [] ∧ ∃ b, StF (endsL ms) o c g b ∧ stretchL (endsL ms) o c g = takenL (endsL ms) b c := by
  obtain ⟨b1, b2⟩ := begins_spec (endsL ms) c
  have hz : (0 : Rat) ∈ beginsL (endsL ms) c := (b1 0).mpr (mem_kept.mpr ⟨.inl rfl, by grind, by rw [endsL_last]; grind⟩)
  unfold stretchL
  cases e : beginsL (endsL ms) c with
  | nil => rw [e] at hz; simp at hz
  | cons x xs =>
    refine ⟨by simp, ?_⟩
    show ∃ b, _ ∧ strG (endsL ms) o c g x (x :: xs) = _
    rw [e] at hz b2
    have hx := mem_kept.mp ((b1 x).mp (by rw [e]; simp))
    have ex : x = 0 := by
      rcases List.mem_cons.mp hz with q | q
      · exact q.symm
      · have := (List.pairwise_cons.mp b2).1 0 q
        grind
    by_cases h1 : g ≤ tkW (endsL ms) o c x
    · refine ⟨x, ⟨by grind, by rw [endsL_last]; grind, by rw [ex] at h1 ⊢; grind, .inl (by rw [e]; simp)⟩, ?_⟩
      rw [strG, if_pos h1, if_pos rfl]
    · rw [strG, if_neg h1]
      exact strG_spec hl hn hc hg xs x b2 (fun y hy => by rw [e]; exact hy) (fun y hy => by
        rw [e] at hy
        rcases List.mem_cons.mp hy with q | q
        · exact .inl (by grind)
        · exact .inr q) (by grind)
end
end Gw
/-! Plain: sizes of what a step of a splitting computes. -/
namespace Gw
structure Stp81 (o : List (Rat × Rat)) (ms : List Rat) (p : Rat × Rat) (g : List (Rat × Rat)) (D G l : Nat) : Prop where
  hl : ms.length = o.length
  n4 : o.length ≤ 4
  inv : Inv81 o.length (fm ms) (fw o) (p :: g)
  srt : ∀ i j, i ≤ j → j < o.length → fw o i ≤ fw o j
  wo : ∀ j, j < o.length → Qd 12 60 (fw o j)
  md : ∀ j, j < o.length → Qd D D (fm ms j)
  tot : Em (fm ms) o.length ≤ 1
  pg : Qd G G p.1
  pw : Qd 12 60 p.2
  d0 : 0 < D
  g0 : 0 < G
  dl : D * G ≤ 2 ^ l
  l7 : l ≤ 700
theorem qd_ph {d N : Nat} {b c e : Rat} (h1 : Qd d N b) (h2 : Qd d N c) (h3 : Qd d N e) : Qd d (N + N) (ph b c e) := by
  unfold ph
  split
  · exact h1.le (by omega)
  · split
    · exact h3.le (by omega)
    · exact h1.add h2
theorem one_nat : ((1 : Nat) : Rat) = 1 := rfl
namespace Stp81
variable {o : List (Rat × Rat)} {ms : List Rat} {p : Rat × Rat} {g : List (Rat × Rat)} {D G l : Nat}
section
variable (h : Stp81 o ms p g D G l)
include h
theorem L0 : 0 < D * G := Nat.mul_pos h.d0 h.g0
theorem LP : D * G ≤ 2 ^ 700 := Nat.le_trans h.dl (Nat.pow_le_pow_right (by decide) h.l7)
theorem nn : ∀ j, j < ms.length → 0 ≤ fm ms j := fun j hj => h.inv.nn j (by rw [← h.hl]; exact hj)
theorem c0 : 0 < p.1 := h.inv.gn p (by simp)
theorem cE : p.1 ≤ Em (fm ms) o.length := by
  show p.1 ≤ S _ (fm ms)
  rw [h.inv.tot]
  exact S_le (f := fun q : Rat × Rat => q.1) (fun q hq => by have := h.inv.gn q hq; grind) (by simp)
theorem em {j : Nat} (hj : j ≤ o.length) : 0 ≤ Em (fm ms) j ∧ Em (fm ms) j ≤ 1 ∧ Qd (D * G) (D * G) (Em (fm ms) j) := by
  have a := Em_le h.inv.nn (Nat.zero_le j) hj
  rw [Em_zero] at a
  have b := Em_le h.inv.nn hj (Nat.le_refl _)
  have c := h.tot
  have q : Qd D (_ * D) (Em (fm ms) j) := Qd.S (l := List.range j) fun i hi => h.md i (by have := List.mem_range.mp hi; omega)
  have q1 := (q.in01 (B := 1) a (by rw [one_nat]; grind)).up G
  refine ⟨a, by grind, q1.le (by rw [Nat.one_mul]; exact Nat.le_refl _)⟩
theorem pc : p.1 ≤ 1 ∧ Qd (D * G) (D * G) p.1 := by
  have := h.cE
  have := h.tot
  exact ⟨by grind, ((h.pg.up D).eq (Nat.mul_comm _ _)).le (by rw [Nat.mul_comm]; exact Nat.le_refl _)⟩
theorem esE : endsL ms = (List.range (o.length + 1)).map (Em (fm ms)) := by rw [endsL_eq, h.hl]
theorem esm {e : Rat} (he : e ∈ endsL ms) : ∃ j, j ≤ o.length ∧ e = Em (fm ms) j := by
  rw [h.esE] at he
  obtain ⟨j, hj, rfl⟩ := List.mem_map.mp he
  exact ⟨j, by have := List.mem_range.mp hj; omega, rfl⟩
theorem lastE : (endsL ms)[(endsL ms).length - 1]! = Em (fm ms) o.length := by rw [endsL_last, h.hl]
theorem beg {b : Rat} (hb : b ∈ beginsL (endsL ms) p.1) : 0 ≤ b ∧ b ≤ 1 ∧ b + p.1 ≤ Em (fm ms) o.length ∧ Qd (D * G) (D * G) b := by
  obtain ⟨k1, k2, k3⟩ := mem_kept.mp (((begins_spec _ _).1 b).mp hb)
  rw [h.lastE] at k3
  have t := h.tot
  have c := h.c0
  have b1 : b ≤ 1 := by grind
  refine ⟨k2, b1, by grind, ?_⟩
  have q : ∃ N, Qd (D * G) N b := by
    rcases k1 with rfl | ⟨e, he, k1⟩
    · exact ⟨0, qd_0⟩
    · obtain ⟨j, hj, rfl⟩ := h.esm he
      rcases k1 with rfl | rfl
      · exact ⟨_, (h.em hj).2.2⟩
      · exact ⟨_, (h.em hj).2.2.sub h.pc.2⟩
  obtain ⟨N, q⟩ := q
  exact (q.in01 (B := 1) k2 (by rw [one_nat]; exact b1)).le (by omega)
theorem m1 {j : Nat} (hj : j < o.length) : fm ms j ≤ 1 := by
  have a := (h.em (Nat.le_of_lt hj)).1
  have b := (h.em (j := j + 1) hj).2.1
  rw [Em_succ] at b
  grind
theorem tkq {d N : Nat} {b : Rat} (hb : Qd d N b) (hc : Qd d N p.1) (he : ∀ j, j ≤ o.length → Qd d N (Em (fm ms) j)) {j : Nat} (hj : j < o.length) : 0 ≤ tk (fm ms) b p.1 j ∧ tk (fm ms) b p.1 j ≤ fm ms j ∧ Qd d d (tk (fm ms) b p.1 j) := by
  have c := h.c0
  have a1 := tk_nn (b := b) (c := p.1) h.inv.nn (by grind) hj
  have a2 := tk_le (b := b) (c := p.1) h.inv.nn (by grind) hj
  have a3 := h.m1 hj
  have q : Qd d (_ + _) (tk (fm ms) b p.1 j) := (qd_ph hb hc (he (j + 1) hj)).sub (qd_ph hb hc (he j (by omega)))
  exact ⟨a1, a2, (q.in01 (B := 1) a1 (by rw [one_nat]; grind)).le (by omega)⟩
theorem tkL {b : Rat} (hb : b ∈ beginsL (endsL ms) p.1) {j : Nat} (hj : j < o.length) : 0 ≤ tk (fm ms) b p.1 j ∧ tk (fm ms) b p.1 j ≤ fm ms j ∧ Qd (D * G) (D * G) (tk (fm ms) b p.1 j) :=
  h.tkq (h.beg hb).2.2.2 h.pc.2 (fun j hj => (h.em hj).2.2) hj
theorem takE (b : Rat) : takenL (endsL ms) b p.1 = (List.range o.length).map (tk (fm ms) b p.1) := by
  rw [takenL_eq h.nn (by have := h.c0; grind), h.hl]
theorem tkWE (b : Rat) : tkW (endsL ms) o p.1 b = S (List.range o.length) fun j => tk (fm ms) b p.1 j * fw o j := by
  rw [tkW_eq h.hl h.nn (by have := h.c0; grind)]
  rfl
theorem tkWq {b : Rat} (hb : b ∈ beginsL (endsL ms) p.1) : Qd (D * G * 12) (240 * (D * G)) (tkW (endsL ms) o p.1 b) := by
  rw [h.tkWE]
  refine Qd.le (Qd.S fun j hj => (h.tkL hb (List.mem_range.mp hj)).2.2.mul (h.wo j (List.mem_range.mp hj))) ?_
  have a := h.n4
  rw [List.length_range]
  have := Nat.mul_le_mul_right (D * G * 60) a
  omega
theorem goalq : Qd (D * G * 12) (60 * (D * G)) (p.1 * p.2) := (h.pc.2.mul h.pw).le (by omega)
theorem shq {a b : Rat} (ha : a ∈ beginsL (endsL ms) p.1) (hb : b ∈ beginsL (endsL ms) p.1) (hne : tkW (endsL ms) o p.1 a ≠ tkW (endsL ms) o p.1 b) :
    ∃ Y, 0 < Y ∧ Y ≤ 480 * (D * G) ∧ Qd Y (300 * (D * G)) (shR (endsL ms) o p.1 (p.1 * p.2) a b) := by
  obtain ⟨Y, y0, y1, y2⟩ := ((h.goalq.sub (h.tkWq ha)).le (M := 300 * (D * G)) (by omega)).div (((h.tkWq hb).sub (h.tkWq ha)).le (M := 480 * (D * G)) (by omega)) (by have := h.L0; omega) (by grind)
  exact ⟨Y, y0, y1, y2⟩
theorem bq {a b : Rat} (ha : a ∈ beginsL (endsL ms) p.1) (hb : b ∈ beginsL (endsL ms) p.1) {Y : Nat} (hY : Y ≤ 480 * (D * G)) (q : Qd Y (300 * (D * G)) (shR (endsL ms) o p.1 (p.1 * p.2) a b)) :
    Qd (Y * (D * G)) (600 * (D * G * (D * G))) (shR (endsL ms) o p.1 (p.1 * p.2) a b * (b - a)) ∧ Qd (Y * (D * G)) (1080 * (D * G * (D * G))) (a + shR (endsL ms) o p.1 (p.1 * p.2) a b * (b - a)) := by
  have e1 : Qd (Y * (D * G)) (600 * (D * G * (D * G))) (shR (endsL ms) o p.1 (p.1 * p.2) a b * (b - a)) := (q.mul ((h.beg hb).2.2.2.sub (h.beg ha).2.2.2)).le (by
    generalize D * G = L
    rw [show L + L = 2 * L by omega, show 300 * L * (2 * L) = 600 * (L * L) by rw [Nat.mul_mul_mul_comm]]
    exact Nat.le_refl _)
  refine ⟨e1, ?_⟩
  have e2 := (((h.beg ha).2.2.2.up Y).eq (Nat.mul_comm _ _)).add e1
  refine e2.le ?_
  generalize D * G = L at *
  have := Nat.mul_le_mul_left L hY
  rw [show L * (480 * L) = 480 * (L * L) by rw [Nat.mul_left_comm]] at this
  omega
theorem szL {N k n : Nat} {x : Rat} (q : Qd (D * G * k) N x) (hk : 0 < k) (hN : N ≤ 1080 * (D * G)) (hk2 : k ≤ 12) (hn : 711 ≤ n) : Sz n x := by
  have a := h.LP
  have b := h.L0
  have p1 : (2 : Nat) ^ 711 ≤ 2 ^ n := Nat.pow_le_pow_right (by decide) hn
  have p2 : 1080 * 2 ^ 700 < (2 : Nat) ^ 711 := by decide +kernel
  have p3 : D * G * k ≤ D * G * 12 := Nat.mul_le_mul_left _ hk2
  exact q.sz (Nat.mul_pos b hk) (by omega) (by omega)
theorem sz1 {n : Nat} {x : Rat} (q : Qd (D * G) (D * G) x) (hn : 711 ≤ n) : Sz n x := h.szL (k := 1) (N := D * G) (by rw [Nat.mul_one]; exact q) (by decide) (by omega) (by decide) hn
theorem szLL {N Y n : Nat} {x : Rat} (q : Qd (Y * (D * G)) N x) (hY : 0 < Y) (hY2 : Y ≤ 480 * (D * G)) (hN : N ≤ 1080 * (D * G * (D * G))) (hn : 1411 ≤ n) : Sz n x := by
  have a := h.LP
  have b := h.L0
  have c := Nat.mul_le_mul a a
  have d := Nat.mul_le_mul_right (D * G) hY2
  rw [Nat.mul_assoc] at d
  have p1 : (2 : Nat) ^ 1411 ≤ 2 ^ n := Nat.pow_le_pow_right (by decide) hn
  have p2 : 1080 * (2 ^ 700 * 2 ^ 700) < (2 : Nat) ^ 1411 := by decide +kernel
  exact q.sz (Nat.mul_pos hY b) (by omega) (by omega)
theorem szw {j : Nat} (hj : j < o.length) : Sz 7 (fw o j) := (h.wo j hj).sz (by decide) (by decide) (by decide)
theorem spec : beginsL (endsL ms) p.1 ≠ [] ∧ ∃ b, StF (endsL ms) o p.1 (p.1 * p.2) b ∧ stretchL (endsL ms) o p.1 (p.1 * p.2) = takenL (endsL ms) b p.1 := by
  have hc : 0 ≤ p.1 := by have := h.c0; grind
  have lo : tkW (endsL ms) o p.1 0 ≤ p.1 * p.2 := by
    rw [tkW_eq h.hl h.nn hc]
    exact W_lo (p := p) h.inv h.srt (List.mem_cons_self ..)
  have hi : p.1 * p.2 ≤ tkW (endsL ms) o p.1 (Em (fm ms) ms.length - p.1) := by
    rw [tkW_eq h.hl h.nn hc, h.hl]
    exact W_hi (p := p) h.inv h.srt (List.mem_cons_self ..)
  exact stretch_spec h.hl h.nn hc (by rw [h.hl]; exact h.cE) lo hi
theorem strP : StrP (endsL ms) o p.1 (p.1 * p.2) := by
  have zc := h.sz1 h.pc.2 (n := 711) (Nat.le_refl _)
  have ze : ∀ e ∈ endsL ms, Sz 711 e := fun e he => by
    obtain ⟨j, hj, rfl⟩ := h.esm he
    exact h.sz1 (h.em hj).2.2 (Nat.le_refl _)
  have spec := h.spec
  refine ⟨⟨?_, ?_, fun e he => ⟨(ze e he).mono (by decide), ((ze e he).sub zc).mono (by decide)⟩, zc.mono (by decide)⟩, spec.1, fun b hb => h.sz1 (h.beg hb).2.2.2 (by decide), fun b hb => ?_, fun b hb => h.szL (h.tkWq hb) (by decide) (by omega) (by decide) (by decide), h.szL h.goalq (by decide) (by omega) (by decide) (by decide), fun a ha b hb hne => ?_⟩
  · rw [h.esE]; simp
  · rw [endsL_len, h.hl]
    have := h.n4
    omega
  · rw [h.takE, range_zip]
    have zt : ∀ j, j < o.length → Sz 711 (tk (fm ms) b p.1 j) := fun j hj => h.sz1 (h.tkL hb hj).2.2 (Nat.le_refl _)
    refine ⟨fun q hq => ?_, FitsL.zero (n := 718) (fun x hx => ?_) ?_⟩
    · obtain ⟨j, hj, rfl⟩ := List.mem_map.mp hq
      have hj := List.mem_range.mp hj
      exact (zt j hj).fits (h.szw hj) (by decide)
    · rw [List.map_map] at hx
      obtain ⟨j, hj, rfl⟩ := List.mem_map.mp hx
      have hj := List.mem_range.mp hj
      exact (zt j hj).mul (h.szw hj)
    · have := h.n4
      simp
      omega
  · obtain ⟨Y, y0, y1, y2⟩ := h.shq ha hb hne
    obtain ⟨k1, k2⟩ := h.bq ha hb y1 y2
    have p2 : 480 * 2 ^ 700 < (2 : Nat) ^ 711 := by decide +kernel
    have hL := h.LP
    refine ⟨(y2.sz (n := 711) y0 (by omega) (by omega)).mono (by decide), h.szLL k1 y0 y1 (by omega) (by decide), h.szLL k2 y0 y1 (by omega) (by decide)⟩
/-- what a step takes -/
theorem took : ∃ b D', stpT o ms p = (List.range o.length).map (tk (fm ms) b p.1) ∧ Str81 o.length (fm ms) (fw o) (tk (fm ms) b p.1) p.1 p.2 ∧ 0 < D' ∧ D' ≤ 2 ^ (2 * l + 9) ∧ D ∣ D' ∧ ∀ j, j < o.length → Qd D' D' (tk (fm ms) b p.1 j) := by
  have c := h.c0
  obtain ⟨_, b, ⟨b0, b1, b2, b3⟩, b4⟩ := h.spec
  rw [h.lastE] at b1
  have hS : Str81 o.length (fm ms) (fw o) (tk (fm ms) b p.1) p.1 p.2 := str_of h.inv.nn c b0 (by grind) (by rw [← tkW_eq h.hl h.nn (by grind)]; exact b2)
  have pl : D * G * (D * G) ≤ 2 ^ (2 * l) := by
    have := Nat.mul_le_mul h.dl h.dl
    rwa [← Nat.pow_add, show l + l = 2 * l by omega] at this
  have p9 : (2 : Nat) ^ (2 * l + 9) = 512 * 2 ^ (2 * l) := by rw [Nat.pow_add]; omega
  have hL := h.L0
  rcases b3 with b3 | ⟨x, y, hx, hy, hne, hb⟩
  · refine ⟨b, D * G, by rw [← h.takE]; exact b4, hS, h.L0, ?_, ⟨G, rfl⟩, fun j hj => (h.tkL b3 hj).2.2⟩
    have : D * G * 1 ≤ D * G * (D * G) := Nat.mul_le_mul_left _ h.L0
    omega
  · obtain ⟨Y, y0, y1, y2⟩ := h.shq hx hy hne
    obtain ⟨k1, k2⟩ := h.bq hx hy y1 y2
    have hd := Nat.mul_le_mul_right (D * G) y1
    rw [Nat.mul_assoc] at hd
    refine ⟨b, Y * (D * G), by rw [← h.takE]; exact b4, hS, Nat.mul_pos y0 hL, by omega, ⟨G * Y, by rw [Nat.mul_comm Y, Nat.mul_assoc]⟩, fun j hj => ?_⟩
    have hub : ∀ {z : Rat}, Qd (D * G) (D * G) z → Qd (Y * (D * G)) (1080 * (D * G * (D * G))) z := fun q => ((q.up Y).eq (Nat.mul_comm _ _)).le (by rw [Nat.mul_comm (D * G) Y]; omega)
    exact (h.tkq (by rw [hb]; exact k2) (hub h.pc.2) (fun j hj => hub (h.em hj).2.2) hj).2.2
end
theorem stpP (h : Stp81 o ms p g D G l) : StpP o ms p := by
  obtain ⟨b, D', e, s, d0, d1, _, dq⟩ := h.took
  have hl := h.hl
  have h4 := h.n4
  have zt : ∀ x ∈ stpT o ms p, Sz 1450 x := fun x hx => by
    rw [e] at hx
    obtain ⟨j, hj, rfl⟩ := List.mem_map.mp hx
    have p1 : (2 : Nat) ^ (2 * l + 9) ≤ 2 ^ 1409 := Nat.pow_le_pow_right (by decide) (by have := h.l7; omega)
    have p2 : (2 : Nat) ^ 1409 < 2 ^ 1450 := by decide +kernel
    exact (dq j (List.mem_range.mp hj)).sz d0 (by omega) (by omega)
  have zm : ∀ x ∈ ms, Sz 711 x := fun x hx => by
    obtain ⟨j, hj⟩ := List.getElem?_of_mem hx
    have hj2 := (List.getElem?_eq_some_iff.mp hj).1
    have ex : x = fm ms j := by
      show x = ms[j]!
      rw [getElem!_pos ms j hj2]
      rw [List.getElem?_eq_getElem hj2] at hj
      exact (Option.some.inj hj).symm
    rw [ex]
    exact h.sz1 ((h.md j (by omega)).up G) (Nat.le_refl _)
  have zc := h.sz1 h.pc.2 (n := 711) (Nat.le_refl _)
  refine ⟨by omega, FitsL.zero zm (by omega), h.strP, zc.fits (m := 7) (h.pw.sz (by decide) (by decide) (by decide)) (by decide), ?_, fun t ht => (zt t ht).fitsO zc (by have := h.c0; grind) (by decide), fun q hq => ?_⟩
  · rw [e]; simp; omega
  · obtain ⟨m1, m2⟩ := List.of_mem_zip hq
    exact (zm _ m1).fits (zt _ m2) (by decide)
end Stp81
end Gw
/-! Plain: what is told as a splitting is one. -/
namespace Gw
def bud (gg : Nat) : Nat → Nat → Prop
  | 0, _ => True
  | k + 1, e => e + gg ≤ 700 ∧ bud gg k (2 * (e + gg) + 9)
structure RowF (o : List (Rat × Rat)) (p : Rat × Rat) (row : List Rat) (t : Nat → Rat) : Prop where
  e : row = (List.range o.length).map fun j => t j / p.1
  nn : ∀ j, j < o.length → 0 ≤ t j
  s : S (List.range o.length) t = p.1
  m : S (List.range o.length) (fun j => t j * fw o j) = p.1 * p.2
  z : ∀ j, j < o.length → Sz 1450 (t j)
theorem list_fm (ms : List Rat) : ms = (List.range ms.length).map (fm ms) := by
  apply List.ext_getElem
  · simp
  · intro i h1 h2
    simp [fm, h1]
theorem fm_range {n j : Nat} {f : Nat → Rat} (h : j < n) : fm ((List.range n).map f) j = f j := by
  show ((List.range n).map f)[j]! = f j
  rw [getElem!_pos _ j (by simpa using h)]
  simp
theorem Inv81.congr {n : Nat} {m m' v : Nat → Rat} {g : List (Rat × Rat)} (h : Inv81 n m v g) (e : ∀ j, j < n → m' j = m j) : Inv81 n m' v g := by
  obtain ⟨a, b, c, d, f⟩ := h
  refine ⟨fun j hj => by rw [e j hj]; exact a j hj, b, ?_, ?_, fun x => ?_⟩
  · rw [← c]
    exact S_congr fun j hj => e j (List.mem_range.mp hj)
  · rw [← d]
    exact S_congr fun j hj => by rw [e j (List.mem_range.mp hj)]
  · refine Rat.le_trans (f x) ?_
    have : Cv n m' v x = Cv n m v x := S_congr fun j hj => by rw [e j (List.mem_range.mp hj)]
    rw [this]
    exact Rat.le_refl
theorem S_pair (n : Nat) {o : List (Rat × Rat)} {f : Nat → Rat} : True := trivial
section
variable {o : List (Rat × Rat)} {G gg : Nat}
theorem spl_rec (n4 : o.length ≤ 4) (srt : ∀ i j, i ≤ j → j < o.length → fw o i ≤ fw o j) (wo : ∀ j, j < o.length → Qd 12 60 (fw o j)) (g0 : 0 < G) (gl : G ≤ 2 ^ gg) :
    ∀ (g : List (Rat × Rat)) (ms : List Rat) (D e : Nat), ms.length = o.length → Inv81 o.length (fm ms) (fw o) g → (∀ j, j < o.length → Qd D D (fm ms j)) → Em (fm ms) o.length ≤ 1 → (∀ p ∈ g, Qd G G p.1 ∧ Qd 12 60 p.2) → 0 < D → D ≤ 2 ^ e → bud gg g.length e →
      SplP o g ms ∧ (splL o g ms).length = g.length ∧ (∀ q ∈ g.zip (splL o g ms), ∃ t, RowF o q.1 q.2 t) ∧ (∀ j, j < o.length → S (g.zip (splL o g ms)) (fun q => q.1.1 * q.2[j]!) = fm ms j) ∧ ∀ q, (g.zip (splL o g ms))[0]? = some q → ∃ t, RowF o q.1 q.2 t ∧ ∀ j, j < o.length → Sz (2 * (e + gg) + 50) (t j)
  | [], ms, D, e, hl, inv, md, tot, hg, d0, dl, b => by
    refine ⟨trivial, rfl, fun q hq => by simp at hq, fun j hj => ?_, fun q hq => by simp at hq⟩
    have h1 := inv.tot
    rw [S_nil] at h1
    have := S_pos0 (fun i hi => inv.nn i (List.mem_range.mp hi)) h1 j (List.mem_range.mpr hj)
    rw [this]
    rfl
  | p :: g, ms, D, e, hl, inv, md, tot, hg, d0, dl, ⟨b1, b2⟩ => by
    have hp := hg p (by simp)
    have H : Stp81 o ms p g D G (e + gg) := ⟨hl, n4, inv, srt, wo, md, tot, hp.1, hp.2, d0, g0, by rw [Nat.pow_add]; exact Nat.mul_le_mul dl gl, b1⟩
    have c0 := H.c0
    obtain ⟨b, D', et, hS, d0', dl', ⟨k, hk⟩, dq⟩ := H.took
    have em : stpM o ms p = (List.range o.length).map fun j => fm ms j - tk (fm ms) b p.1 j := by
      unfold stpM
      rw [et]
      conv => lhs; arg 2; arg 1; rw [list_fm ms, hl]
      rw [List.zip_map', List.map_map]
      rfl
    have ef : ∀ j, j < o.length → fm (stpM o ms p) j = fm ms j - tk (fm ms) b p.1 j := fun j hj => by rw [em, fm_range hj]
    have inv' : Inv81 o.length (fm (stpM o ms p)) (fw o) g := (inv.step srt hS).congr ef
    have md' : ∀ j, j < o.length → Qd D' D' (fm (stpM o ms p) j) := fun j hj => by
      rw [ef j hj]
      have q1 : Qd D' D' (fm ms j) := by rw [hk]; exact (md j hj).up k
      have a1 := hS.lo j hj
      have a2 := hS.hi j hj
      have a3 := H.m1 hj
      exact ((q1.sub (dq j hj)).in01 (B := 1) (by grind) (by rw [one_nat]; grind)).le (by omega)
    have tot' : Em (fm (stpM o ms p)) o.length ≤ 1 := by
      have h1 := inv'.tot
      have h2 := inv.tot
      rw [S_cons] at h2
      have h3 : Em (fm (stpM o ms p)) o.length = S g fun q => q.1 := h1
      have h4 : Em (fm ms) o.length = p.1 + S g fun q => q.1 := h2
      grind
    obtain ⟨r1, r2, r3, r4, _⟩ := spl_rec n4 srt wo g0 gl g (stpM o ms p) D' (2 * (e + gg) + 9) (by rw [em]; simp) inv' md' tot' (fun q hq => hg q (by simp [hq])) d0' dl' b2
    have hr : stpR o ms p = (List.range o.length).map fun j => tk (fm ms) b p.1 j / p.1 := by
      unfold stpR
      rw [et, List.map_map]
      rfl
    refine ⟨⟨H.stpP, r1⟩, by show (splL o g (stpM o ms p)).length + 1 = g.length + 1; rw [r2], fun q hq => ?_, fun j hj => ?_, fun q hq => ?_⟩
    · rcases List.mem_cons.mp (show q ∈ (p, stpR o ms p) :: g.zip (splL o g (stpM o ms p)) from hq) with rfl | hq
      · refine ⟨tk (fm ms) b p.1, hr, hS.lo, hS.sum, hS.mean, fun j hj => ?_⟩
        have p1 : (2 : Nat) ^ (2 * (e + gg) + 9) ≤ 2 ^ 1409 := Nat.pow_le_pow_right (by decide) (by omega)
        have p2 : (2 : Nat) ^ 1409 < 2 ^ 1450 := by decide +kernel
        exact (dq j hj).sz d0' (by omega) (by omega)
      · exact r3 q hq
    · show S ((p, stpR o ms p) :: g.zip (splL o g (stpM o ms p))) _ = _
      rw [S_cons, r4 j hj, ef j hj]
      have : (stpR o ms p)[j]! = tk (fm ms) b p.1 j / p.1 := by
        rw [hr]
        exact fm_range hj
      show p.1 * (stpR o ms p)[j]! + _ = _
      rw [this, Rat.mul_comm, Rat.div_mul_cancel (by grind)]
      grind
    · have eq : q = (p, stpR o ms p) := by
        have : ((p, stpR o ms p) :: g.zip (splL o g (stpM o ms p)))[0]? = some q := hq
        simpa using this.symm
      subst eq
      refine ⟨tk (fm ms) b p.1, ⟨hr, hS.lo, hS.sum, hS.mean, fun j hj => ?_⟩, fun j hj => ?_⟩
      · have p1 : (2 : Nat) ^ (2 * (e + gg) + 9) ≤ 2 ^ 1409 := Nat.pow_le_pow_right (by decide) (by omega)
        have p2 : (2 : Nat) ^ 1409 < 2 ^ 1450 := by decide +kernel
        exact (dq j hj).sz d0' (by omega) (by omega)
      · have p2 : (2 : Nat) ^ (2 * (e + gg) + 9) < 2 ^ (2 * (e + gg) + 50) := Nat.pow_lt_pow_right (by decide) (by omega)
        exact (dq j hj).sz d0' (by omega) (by omega)
end
end Gw
/-! Plain: the judges of splittings say yes. -/
namespace Gw
theorem zip_range {α : Type} [Inhabited α] (f : Nat → Rat) (o : List α) : o.zip ((List.range o.length).map f) = (List.range o.length).map fun j => (o[j]!, f j) := by
  apply List.ext_getElem
  · simp
  · intro i h1 h2
    have h3 : i < o.length := by simpa using h2
    simp [h3]
theorem mem_zip_r {α β : Type} : ∀ {xs : List α} {ys : List β}, ys.length = xs.length → ∀ y ∈ ys, ∃ x, (x, y) ∈ xs.zip ys
  | [], [], _, y, hy => by simp at hy
  | [], _ :: _, h, _, _ => by simp at h
  | _ :: _, [], h, _, _ => by simp at h
  | x :: xs, z :: ys, h, y, hy => by
    rcases List.mem_cons.mp hy with rfl | hy
    · exact ⟨x, by simp⟩
    · obtain ⟨w, hw⟩ := mem_zip_r (by simpa using h) y hy
      exact ⟨w, by simp only [List.zip_cons_cons, List.mem_cons]; exact .inr hw⟩
namespace RowF
variable {o : List (Rat × Rat)} {p : Rat × Rat} {row : List Rat} {t : Nat → Rat}
section
variable (h : RowF o p row t) (c0 : 0 < p.1) (cz : Sz 100 p.1)
include h
theorem len : row.length = o.length := by rw [h.e]; simp
include c0
theorem pos : ∀ x ∈ row, 0 ≤ x := fun x hx => by
  rw [h.e] at hx
  obtain ⟨j, hj, rfl⟩ := List.mem_map.mp hx
  have a := h.nn j (List.mem_range.mp hj)
  rw [Rat.div_def]
  exact Rat.mul_nonneg a (Rat.le_of_lt (Rat.inv_pos.mpr c0))
theorem sum1 : sumR row = 1 := by
  rw [h.e, sumR_S, S_map]
  have e : S (List.range o.length) (fun b => t b / p.1) = S (List.range o.length) t * p.1⁻¹ := by
    rw [← S_mulr]
    exact S_congr fun j _ => by rw [Rat.div_def]
  rw [e, h.s]
  exact Rat.mul_inv_cancel _ (by grind)
theorem mean' {v : Nat → Rat} {c : Rat} (hv : ∀ j, j < o.length → v j = c * fw o j) : S (List.range o.length) (fun j => t j / p.1 * v j) = c * p.2 := by
  have e : S (List.range o.length) (fun j => t j / p.1 * v j) = S (List.range o.length) (fun j => t j * fw o j) * (p.1⁻¹ * c) := by
    rw [← S_mulr]
    exact S_congr fun j hj => by rw [Rat.div_def, hv j (List.mem_range.mp hj)]; grind
  rw [e, h.m]
  have : p.1 * p.1⁻¹ = 1 := Rat.mul_inv_cancel _ (by grind)
  grind
include cz
theorem szx : ∀ x ∈ row, Sz 1550 x := fun x hx => by
  rw [h.e] at hx
  obtain ⟨j, hj, rfl⟩ := List.mem_map.mp hx
  exact (h.z j (List.mem_range.mp hj)).div cz (by grind)
theorem chP (n4 : o.length ≤ 4) : ChP row := ⟨by rw [h.len]; omega, h.pos c0, FitsL.zero (h.szx c0 cz) (by rw [h.len]; omega), h.sum1 c0⟩
end
end RowF
section
variable {g o : List (Rat × Rat)} {M : List (List Rat)}
theorem isSpl_of (hl : M.length = g.length) (g4 : g.length ≤ 4) (n4 : o.length ≤ 4) (hr : ∀ q ∈ g.zip M, ∃ t, RowF o q.1 q.2 t) (hs : ∀ j, j < o.length → S (g.zip M) (fun q => q.1.1 * q.2[j]!) = (o[j]!).1) (hc : ∀ p ∈ g, 0 < p.1 ∧ Sz 100 p.1) (ho : ∀ p ∈ o, Sz 100 p.2) : IsSpl g o M := by
  have hrow : ∀ r ∈ M, ∃ p t, p ∈ g ∧ RowF o p r t := fun r hr' => by
    obtain ⟨p, hp⟩ := mem_zip_r hl r hr'
    obtain ⟨t, ht⟩ := hr _ hp
    exact ⟨p, t, (List.of_mem_zip hp).1, ht⟩
  refine ⟨hl, by omega, by omega, fun r hr' => ?_, fun r hr' => ?_, fun q hq => ?_, fun q hq => ?_, fun j hj => ⟨fun q hq => ?_, FitsL.zero (n := 1650) (fun x hx => ?_) ?_⟩, fun j hj => ?_⟩
  · obtain ⟨p, t, hp, ht⟩ := hrow r hr'
    exact ht.len
  · obtain ⟨p, t, hp, ht⟩ := hrow r hr'
    exact ht.chP (hc p hp).1 (hc p hp).2 n4
  · obtain ⟨t, ht⟩ := hr q hq
    obtain ⟨c0, cz⟩ := hc _ (List.of_mem_zip hq).1
    refine ⟨fun x hx => (ho _ (List.of_mem_zip hx).1).fits (ht.szx c0 cz _ (List.of_mem_zip hx).2) (by decide), FitsL.zero (n := 1650) (fun x hx => ?_) ?_⟩
    · obtain ⟨y, hy, rfl⟩ := List.mem_map.mp hx
      exact ((ho _ (List.of_mem_zip hy).1).mul (ht.szx c0 cz _ (List.of_mem_zip hy).2)).mono (by decide)
    · rw [List.length_map, List.length_zip]
      omega
  · obtain ⟨t, ht⟩ := hr q hq
    obtain ⟨c0, cz⟩ := hc _ (List.of_mem_zip hq).1
    rw [ht.e, zip_range, List.map_map, sumR_S, S_map]
    have := ht.mean' c0 (v := fw o) (c := 1) (fun j _ => by grind)
    rw [Rat.one_mul] at this
    rw [← this]
    exact S_congr fun j _ => by show fw o j * (t j / q.1.1) = _; grind
  · obtain ⟨t, ht⟩ := hr q hq
    obtain ⟨c0, cz⟩ := hc _ (List.of_mem_zip hq).1
    have hj2 : j < q.2.length := by rw [ht.len]; exact hj
    exact cz.fits (ht.szx c0 cz _ (by rw [getElem!_pos _ j hj2]; exact List.getElem_mem hj2)) (by decide)
  · obtain ⟨q, hq, rfl⟩ := List.mem_map.mp hx
    obtain ⟨t, ht⟩ := hr q hq
    obtain ⟨c0, cz⟩ := hc _ (List.of_mem_zip hq).1
    have hj2 : j < q.2.length := by rw [ht.len]; exact hj
    exact (cz.mul (ht.szx c0 cz _ (by rw [getElem!_pos _ j hj2]; exact List.getElem_mem hj2))).mono (by decide)
  · rw [List.length_map, List.length_zip]
    omega
  · rw [sumR_S, S_map]
    exact hs j hj
end
theorem scG_get (o : LGu) {j : Nat} (h : j < o.length) : (scG o)[j]! = ((o[j]!).1, Rat.divInt ((o[j]!).2 : Int) 12) := by
  unfold scG
  rw [getElem!_pos _ j (by simpa using h), getElem!_pos o j h]
  simp
theorem scG_len (o : LGu) : (scG o).length = o.length := by simp [scG]
theorem div12 (k : Nat) : ((k : Int) : Rat) = 12 * Rat.divInt (k : Int) 12 := by
  rw [Rat.divInt_eq_div]
  have : ((12 : Int) : Rat) = 12 := rfl
  rw [this, Rat.mul_comm, Rat.div_mul_cancel (by decide)]
theorem isSplL_of {g o : LGu} {M : List (List Rat)} (hl : M.length = g.length) (hr : ∀ q ∈ (scG g).zip M, ∃ t, RowF (scG o) q.1 q.2 t) (hc : ∀ p ∈ scG g, 0 < p.1 ∧ Sz 100 p.1) : IsSplL g o M := by
  have ol := scG_len o
  have hrow : ∀ r ∈ M, ∃ p t, p ∈ scG g ∧ RowF (scG o) p r t := fun r hr' => by
    obtain ⟨p, hp⟩ := mem_zip_r (by rw [scG_len]; exact hl) r hr'
    obtain ⟨t, ht⟩ := hr _ hp
    exact ⟨p, t, (List.of_mem_zip hp).1, ht⟩
  refine ⟨hl, fun r hr' => ?_, fun r hr' x hx => ?_⟩
  · obtain ⟨p, t, hp, ht⟩ := hrow r hr'
    rw [ht.len, ol]
  · obtain ⟨p, t, hp, ht⟩ := hrow r hr'
    exact ht.szx (hc p hp).1 (hc p hp).2 x hx
end Gw
/-! Plain: what made guesses fulfil; the plain law. -/
namespace Gw
theorem Al_app {l k : LGu} {x : Rat} : Al (l ++ k) x = Al l x + Al k x := S_app
theorem OutOf.facts {g out : LGu} (h : OutOf g out) (hp : ∀ p ∈ g, 0 < p.1 ∧ p.1 ≤ 1) : (∀ q ∈ out, 0 < q.1) ∧ S out (fun q => q.1) = S g (fun q => q.1) ∧ S out (fun q => q.1 * ((q.2 : Int) : Rat)) = S g (fun q => q.1 * ((q.2 : Int) : Rat)) ∧ (∀ x, Al g x ≤ Al out x) ∧ (∀ q ∈ out, ∃ p ∈ g, q.2 ≤ p.2 + 12) ∧ (g ≠ [] → out ≠ []) ∧
    ∀ d, 0 < d → (∀ p ∈ g, Qd d d p.1) → ∃ k, 0 < k ∧ k ≤ 24 ^ g.length ∧ ∀ q ∈ out, ∃ N, Qd (d * k) N q.1 := by
  obtain ⟨ls, a, rfl⟩ := h
  induction a with
  | nil => exact ⟨fun q hq => by simp at hq, rfl, rfl, fun x => Rat.le_refl, fun q hq => by simp at hq, fun h => absurd rfl h, fun d hd _ => ⟨1, by decide, by decide, fun q hq => by simp at hq⟩⟩
  | @cons p l g ls k t ih =>
    obtain ⟨i1, i2, i3, i4, i5, i6, i7⟩ := ih fun q hq => hp q (by simp [hq])
    obtain ⟨hp0, hp1⟩ := hp p (by simp)
    obtain ⟨f1, f2, f3, f4, f5, f6, f7⟩ := k.facts hp0
    rw [List.flatten_cons]
    refine ⟨fun q hq => ?_, ?_, ?_, fun x => ?_, fun q hq => ?_, fun _ => ?_, fun d hd hq => ?_⟩
    · rcases List.mem_append.mp hq with hq | hq
      · exact f1 q hq
      · exact i1 q hq
    · rw [S_app, f2, i2, S_cons]
    · rw [S_app, f3, i3, S_cons]
    · rw [Al_app]
      have h1 := f4 x
      have h2 := i4 x
      have e : Al (p :: g) x = p.1 * pp (((p.2 : Int) : Rat) - x) + Al g x := S_cons
      rw [e]
      grind
    · rcases List.mem_append.mp hq with hq | hq
      · exact ⟨p, by simp, f5 q hq⟩
      · obtain ⟨r, hr, h⟩ := i5 q hq
        exact ⟨r, by simp [hr], h⟩
    · intro e
      exact f6 (List.append_eq_nil_iff.mp e).1
    · obtain ⟨k1, a1, a2, a3⟩ := f7 d hd (hq p (by simp)) hp1
      obtain ⟨k2, b1, b2, b3⟩ := i7 d hd fun q hq' => hq q (by simp [hq'])
      refine ⟨k1 * k2, Nat.mul_pos a1 b1, ?_, fun q hq' => ?_⟩
      · rw [List.length_cons, Nat.pow_succ, Nat.mul_comm]
        exact Nat.mul_le_mul b2 a2
      · rcases List.mem_append.mp hq' with hq' | hq'
        · obtain ⟨N, z⟩ := a3 q hq'
          exact ⟨_, (z.up k2).eq (Nat.mul_assoc _ _ _)⟩
        · obtain ⟨N, z⟩ := b3 q hq'
          exact ⟨_, (z.up k1).eq (by rw [Nat.mul_assoc, Nat.mul_comm k2 k1])⟩
theorem join_facts {ps : LGu} (hp : ∀ p ∈ ps, 0 < p.1) : (joinN ps).length ≤ ps.length ∧ (ps ≠ [] → joinN ps ≠ []) ∧ (joinN ps).Pairwise (fun p q => p.2 < q.2) ∧ (∀ q ∈ joinN ps, 0 < q.1 ∧ ∃ p ∈ ps, q.2 = p.2) ∧ ∀ d, 0 < d → (∀ p ∈ ps, ∃ N, Qd d N p.1) → ∀ q ∈ joinN ps, ∃ N, Qd d N q.1 := by
  have hperm := srtI_perm (jwL ps)
  have hmem : ∀ n, n ∈ srtI (jwL ps) ↔ ∃ p ∈ ps, (p.2 : Int) = n := fun n => by rw [hperm.mem_iff, jw_mem]
  refine ⟨?_, fun hne e => ?_, ?_, fun q hq => ?_, fun d hd hq r hr => ?_⟩
  · unfold joinN joinI
    rw [List.length_map, List.length_map, hperm.length_eq]
    unfold jwL
    rw [List.length_map]
    exact Nat.le_trans (List.length_filter_le _ _) (by rw [enumN_len]; exact Nat.le_refl _)
  · obtain ⟨p, hp'⟩ := List.exists_mem_of_ne_nil ps hne
    have : (p.2 : Int) ∈ srtI (jwL ps) := (hmem _).mpr ⟨p, hp', rfl⟩
    unfold joinN joinI at e
    rw [List.map_eq_nil_iff, List.map_eq_nil_iff] at e
    rw [e] at this
    simp at this
  · unfold joinN joinI
    rw [List.pairwise_map, List.pairwise_map]
    have h1 := srtI_pw (jwL ps)
    have h2 : (srtI (jwL ps)).Pairwise (· ≠ ·) := List.nodup_iff_pairwise_ne.mp (hperm.nodup_iff.mpr (jw_nodup ps))
    refine (h1.and h2).imp_of_mem ?_
    intro a b ha hb hab
    obtain ⟨p, _, ep⟩ := (hmem a).mp ha
    obtain ⟨r, _, er⟩ := (hmem b).mp hb
    obtain ⟨q1, q2⟩ := hab
    show a.toNat < b.toNat
    omega
  · unfold joinN joinI at hq
    obtain ⟨r, hr, rfl⟩ := List.mem_map.mp hq
    obtain ⟨n, hn, rfl⟩ := List.mem_map.mp hr
    obtain ⟨p, hp', e⟩ := (hmem n).mp hn
    refine ⟨?_, p, hp', by show n.toNat = _; omega⟩
    show 0 < sumR _
    rw [sumR_S, S_map]
    have hm : p ∈ ps.filter fun q => decide ((q.2 : Int) = n) := List.mem_filter.mpr ⟨hp', by simpa using e⟩
    have := S_le (f := fun q : Rat × Nat => q.1) (fun a ha => Rat.le_of_lt (hp a (List.mem_filter.mp ha).1)) hm
    have := hp p hp'
    grind
  · unfold joinN joinI at hr
    obtain ⟨r', hr', rfl⟩ := List.mem_map.mp hr
    obtain ⟨n, hn, rfl⟩ := List.mem_map.mp hr'
    show ∃ N, Qd d N (sumR _)
    rw [sumR_S, S_map]
    have : ∀ l : LGu, (∀ p ∈ l, ∃ N, Qd d N p.1) → ∃ N, Qd d N (S l fun q => q.1) := by
      intro l
      induction l with
      | nil => intro _; exact ⟨0, qd_0⟩
      | cons a l ih =>
        intro h
        obtain ⟨N, z⟩ := h a (by simp)
        obtain ⟨M, y⟩ := ih fun p hp => h p (by simp [hp])
        exact ⟨_, by rw [S_cons]; exact z.add y⟩
    exact this _ fun p hp' => hq p (List.mem_filter.mp hp').1
theorem MdC.le1 {D l W : Nat} {g : LGu} (h : MdC D l W g) : ∀ p ∈ g, 0 < p.1 ∧ p.1 ≤ 1 := fun p hp => by
  have := S_le (f := fun q : Rat × Nat => q.1) (fun a ha => Rat.le_of_lt (h.pos a ha)) hp
  rw [h.one] at this
  exact ⟨h.pos p hp, this⟩
theorem MdC.step {D l W m : Nat} {g g' : LGu} (h : MdC D l W g) (k : Sp1 m g g') : MdC (D * 24 ^ l) (2 * l) (W + 12) g' ∧ (∀ x, Al g x ≤ Al g' x) ∧ (g'.length ≤ l ∨ g'.length ≤ m) := by
  have p24 : ∀ n, 1 ≤ 24 ^ n := fun n => Nat.pow_pos (by decide)
  rcases k with rfl | ⟨out, ho, rfl, hl⟩
  · refine ⟨h.up (Nat.le_mul_of_pos_right _ (p24 l)) (by omega) (by omega), fun x => Rat.le_refl, .inl h.len⟩
  · obtain ⟨f1, f2, f3, f4, f5, f6, f7⟩ := ho.facts h.le1
    obtain ⟨j1, j2, j3, j4, j5⟩ := join_facts f1
    have e1 : S (joinN out) (fun p => p.1) = 1 := by
      have := join_S out fun _ => 1
      rw [S_congr (g := fun q => q.1) fun q _ => by grind, S_congr (l := out) (g := fun q => q.1) fun q _ => by grind] at this
      rw [this, f2, h.one]
    obtain ⟨d, d0, d1, d2⟩ := h.den
    obtain ⟨k, k0, k1, k2⟩ := f7 d d0 d2
    have hgl := h.len
    have pos : ∀ q ∈ joinN out, 0 < q.1 := fun q hq => (j4 q hq).1
    refine ⟨⟨j2 (f6 h.ne), ?_, pos, j3, e1, ?_, fun q hq => ?_, d * k, Nat.mul_pos d0 k0, ?_, fun q hq => ?_⟩, fun x => ?_, .inr hl⟩
    · have := ho.len
      omega
    · rw [join_S out fun n => ((n : Int) : Rat), f3, h.mean]
    · obtain ⟨_, p, hp, e⟩ := j4 q hq
      obtain ⟨r, hr, h2⟩ := f5 p hp
      have := h.wb r hr
      omega
    · exact Nat.mul_le_mul d1 (Nat.le_trans k1 (Nat.pow_le_pow_right (by decide) hgl))
    · obtain ⟨N, z⟩ := j5 (d * k) (Nat.mul_pos d0 k0) k2 q hq
      have a := S_le (f := fun q : Rat × Nat => q.1) (fun a ha => Rat.le_of_lt (pos a ha)) hq
      rw [e1] at a
      exact (z.in01 (B := 1) (Rat.le_of_lt (pos q hq)) (by rw [one_nat]; exact a)).le (by omega)
    · have := f4 x
      unfold Al at this ⊢
      rw [join_S out fun n => pp (((n : Int) : Rat) - x)]
      exact this
theorem MdC.short {D l W : Nat} {g : LGu} (h : MdC D l W g) {l' : Nat} (k : g.length ≤ l') : MdC D l' W g := ⟨h.ne, k, h.pos, h.inc, h.one, h.mean, h.wb, h.den⟩
theorem mk_mdc {m : Nat} : ∀ {k : Nat} {g : LGu}, k ≤ 2 → Mk m k g → MdC (24 ^ 3) 4 36 g := by
  intro k g hk h
  have h2 : Mk m 2 g := h.up hk
  obtain ⟨g1, ⟨g0, rfl, s1⟩, s2⟩ := h2
  have a := (mdc_one.step s1).1
  exact ((a.step s2).1).up (by decide) (by decide) (by decide)
theorem oth_mdc {one other : LGu} (h1 : Mk 3 2 one) (h : Sp1 4 one other ∨ Mk 4 2 other) : MdC (24 ^ 7) 4 48 other := by
  rcases h with h | h
  · obtain ⟨a, _, c⟩ := (mk_mdc (Nat.le_refl 2) h1).step h
    exact (a.up (D' := 24 ^ 7) (by decide) (Nat.le_refl _) (Nat.le_refl _)).short (by omega)
  · exact (mk_mdc (Nat.le_refl 2) h).up (by decide) (by decide) (by decide)
theorem zip_drop_pw {α : Type} {R : α → α → Prop} {l : List α} (h : l.Pairwise R) : ∀ q ∈ l.zip (l.drop 1), R q.1 q.2 := fun q hq => by
  obtain ⟨i, hi⟩ := List.getElem?_of_mem hq
  rw [List.getElem?_zip_eq_some] at hi
  obtain ⟨h1, h2⟩ := hi
  rw [List.getElem?_drop] at h2
  obtain ⟨l1, e1⟩ := List.getElem?_eq_some_iff.mp h1
  obtain ⟨l2, e2⟩ := List.getElem?_eq_some_iff.mp h2
  have := List.pairwise_iff_getElem.mp h i (1 + i) l1 l2 (by omega)
  rw [e1, e2] at this
  exact this
theorem dv_lt {a b : Nat} (h : a < b) : Rat.divInt (a : Int) 12 < Rat.divInt (b : Int) 12 := by
  have h1 : ((a : Int) : Rat) < ((b : Int) : Rat) := Rat.intCast_lt_intCast.mpr (by omega)
  rw [dv12 a, dv12 b] at h1
  grind
theorem dv_nn (a : Nat) : 0 ≤ Rat.divInt (a : Int) 12 := by
  have h1 : ((0 : Int) : Rat) ≤ ((a : Int) : Rat) := Rat.intCast_le_intCast.mpr (by omega)
  rw [dv12 a] at h1
  have h2 : (0 : Rat) ≤ 12 * Rat.divInt (a : Int) 12 := h1
  grind
theorem qd_12 {k : Nat} : Qd 12 k (Rat.divInt (k : Int) 12) := by
  refine ⟨(k : Int), ?_, by simp⟩
  rw [Rat.divInt_eq_div]
  exact Rat.div_mul_cancel (by decide)
section
variable {D W : Nat} {g : LGu}
theorem MdC.gs {l : Nat} (h : MdC D l W g) : Gs (scG g) := by
  refine ⟨fun e => h.ne (List.map_eq_nil_iff.mp e), fun p hp => ?_, ?_, ?_⟩
  · obtain ⟨q, hq, rfl⟩ := List.mem_map.mp hp
    exact h.pos q hq
  · unfold scG
    rw [S_map]
    exact h.one
  · unfold scG
    rw [S_map]
    have := h.mean
    rw [S_congr (g := fun p => 12 * (p.1 * Rat.divInt (p.2 : Int) 12)) fun p _ => by rw [dv12]; grind, S_mul] at this
    grind
theorem MdC.sz {l : Nat} (h : MdC D l W g) (hD : D < 2 ^ 100) : ∀ p ∈ g, Sz 100 p.1 := fun p hp => by
  obtain ⟨d, d0, d1, d2⟩ := h.den
  exact (d2 p hp).sz d0 (by omega) (by omega)
theorem MdC.gok (h : MdC D 4 W g) (hD : D < 2 ^ 100) (hW : W ≤ 60) : GOk g := by
  have hl := h.len
  have hz := h.sz hD
  have hw : ∀ p ∈ g, p.2 ≤ 60 := fun p hp => Nat.le_trans (h.wb p hp) hW
  refine ⟨⟨by omega, fun p hp => ⟨hz p hp, by have := hw p hp; omega⟩⟩, ?_⟩
  · have G := h.gs
    refine ⟨?_, by rw [scG_len]; exact hl, fun p hp => ?_, ?_, ?_, ?_, fun p hp => ?_⟩
    · rw [scG_len]
      exact List.length_pos_iff.mpr h.ne
    · obtain ⟨q, hq, rfl⟩ := List.mem_map.mp hp
      exact ⟨h.pos q hq, dv_nn _⟩
    · refine zip_drop_pw (R := fun p q : Rat × Rat => p.2 < q.2) ?_
      unfold scG
      rw [List.pairwise_map]
      exact h.inc.imp fun h => dv_lt h
    · rw [sumR_S, S_map]
      exact G.one
    · rw [sumR_S, S_map]
      exact G.mean
    · obtain ⟨q, hq, rfl⟩ := List.mem_map.mp hp
      exact ⟨hz q hq, (qd_12.le (hw q hq)).sz (by decide) (by decide) (by decide)⟩
end
theorem bud_dn {gg : Nat} : ∀ {k e : Nat}, bud gg (k + 1) e → bud gg k e
  | 0, _, _ => trivial
  | k + 1, e, ⟨a, b⟩ => ⟨a, bud_dn b⟩
theorem bud_le {gg k l e : Nat} (h : bud gg l e) (hk : k ≤ l) : bud gg k e := by
  induction l with
  | zero => rwa [show k = 0 by omega]
  | succ l ih =>
    by_cases c : k = l + 1
    · rwa [c]
    · exact ih (bud_dn h) (by omega)
theorem twoP {Dg Do gg e Wg Wo : Nat} {g o : LGu} (hg : MdC Dg 4 Wg g) (ho : MdC Do 4 Wo o) (h1 : Dg ≤ 2 ^ gg) (h2 : Do ≤ 2 ^ e) (g9 : gg < 100) (e9 : e < 100) (hb : bud gg 4 e) (he : e + gg ≤ 170) (w1 : Wg ≤ 60) (w2 : Wo ≤ 60) : TwoP g o := by
  have gk := hg.gok (Nat.lt_of_le_of_lt h1 (Nat.pow_lt_pow_right (by decide) g9)) w1
  have ok := ho.gok (Nat.lt_of_le_of_lt h2 (Nat.pow_lt_pow_right (by decide) e9)) w2
  have G := hg.gs
  have O := ho.gs
  refine ⟨gk, ok, hg.len, ho.len, ho.inc, fun p hp => by have := hg.pos p hp; grind, due_eq G O, fun hn => ?_⟩
  · have dom := (hgO_all G O).mp hn
    obtain ⟨dg, dg0, dg1, dg2⟩ := hg.den
    obtain ⟨d, d0, d1, d2⟩ := ho.den
    obtain ⟨ms, hms⟩ : ∃ ms, ms = (scG o).map fun p => p.1 := ⟨_, rfl⟩
    have ml : ms.length = (scG o).length := by rw [hms, List.length_map]
    have n4 : (scG o).length ≤ 4 := ok.gp.hi
    have fmE : ∀ j, j < (scG o).length → fm ms j = ((scG o)[j]!).1 := fun j hj => by
      show ms[j]! = _
      rw [hms, getElem!_pos _ j (by simpa using hj), getElem!_pos _ j hj]
      simp
    have gl : g.length = (scG g).length := (scG_len g).symm
    have inv : Inv81 (scG o).length (fm ms) (fw (scG o)) (scG g) := by
      refine ⟨fun j hj => ?_, G.pos, ?_, ?_, fun x => ?_⟩
      · rw [fmE j hj]
        exact Rat.le_of_lt (O.pos _ (by rw [getElem!_pos _ j hj]; exact List.getElem_mem hj))
      · rw [G.one, ← O.one, S_range (scG o)]
        exact S_congr fun j hj => fmE j (List.mem_range.mp hj)
      · rw [G.mean, ← O.mean, S_range (scG o)]
        exact S_congr fun j hj => by rw [fmE j (List.mem_range.mp hj)]; rfl
      · refine Rat.le_trans (dom x) ?_
        have : Cv (scG o).length (fm ms) (fw (scG o)) x = Ab (scG o) x := by
          unfold Cv Ab
          rw [S_range (scG o)]
          exact S_congr fun j hj => by rw [fmE j (List.mem_range.mp hj)]; rfl
        rw [this]
        exact Rat.le_refl
    have srt : ∀ i j, i ≤ j → j < (scG o).length → fw (scG o) i ≤ fw (scG o) j := fun i j hij hj => by
      rw [scG_len] at hj
      unfold fw
      rw [scG_get o hj, scG_get o (by omega)]
      by_cases c : i = j
      · subst c; exact Rat.le_refl
      · have := List.pairwise_iff_getElem.mp ho.inc i j (by omega) hj (by omega)
        have := dv_lt this
        rw [getElem!_pos o i (by omega), getElem!_pos o j hj]
        exact Rat.le_of_lt this
    have wq : ∀ j, j < (scG o).length → Qd 12 60 (fw (scG o) j) := fun j hj => by
      rw [scG_len] at hj
      unfold fw
      rw [scG_get o hj]
      exact qd_12.le (Nat.le_trans (ho.wb _ (by rw [getElem!_pos o j hj]; exact List.getElem_mem hj)) w2)
    have mdq : ∀ j, j < (scG o).length → Qd d d (fm ms j) := fun j hj => by
      rw [fmE j hj]
      rw [scG_len] at hj
      rw [scG_get o hj]
      exact d2 _ (by rw [getElem!_pos o j hj]; exact List.getElem_mem hj)
    have tot : Em (fm ms) (scG o).length ≤ 1 := by
      have e1 : Em (fm ms) (scG o).length = S (scG g) fun p => p.1 := inv.tot
      rw [e1, G.one]
      exact Rat.le_refl
    have gq : ∀ p ∈ scG g, Qd dg dg p.1 ∧ Qd 12 60 p.2 := fun p hp => by
      obtain ⟨q, hq, rfl⟩ := List.mem_map.mp hp
      exact ⟨dg2 q hq, qd_12.le (Nat.le_trans (hg.wb q hq) w1)⟩
    obtain ⟨r1, r2, r3, r4, r5⟩ := spl_rec n4 srt wq dg0 (Nat.le_trans dg1 h1) (scG g) ms d e ml inv mdq tot gq d0 (Nat.le_trans d1 h2) (bud_le hb (by rw [scG_len]; exact hg.len))
    have cz : ∀ p ∈ scG g, 0 < p.1 ∧ Sz 100 p.1 := fun p hp => ⟨G.pos p hp, (gk.gp.sz p hp).1⟩
    rw [← hms]
    refine ⟨r1, isSplL_of (by rw [r2, scG_len]) r3 cz, fun r hr x hx => ?_⟩
    have r20 : 0 < (scG g).length := by
      rw [← r2]
      exact (List.getElem?_eq_some_iff.mp hr).1
    have hq : ((scG g).zip (splL (scG o) (scG g) ms))[0]? = some ((scG g)[0], r) := by
      rw [List.getElem?_zip_eq_some]
      exact ⟨List.getElem?_eq_getElem r20, hr⟩
    obtain ⟨t, ht, tz⟩ := r5 _ hq
    have hp := cz _ (List.getElem_mem r20)
    rw [show r = (List.range (scG o).length).map fun j => t j / ((scG g)[0]).1 from ht.e] at hx
    obtain ⟨j, hj, rfl⟩ := List.mem_map.mp hx
    exact ((tz j (List.mem_range.mp hj)).div hp.2 (by have := hp.1; grind)).mono (by omega)
theorem mathP : MathP where
  md := fun m k g _ hk h => by
    have a := mk_mdc hk h
    exact ⟨a.len, fun p hp => ⟨a.sz (by decide) p hp, by have := a.wb p hp; omega⟩⟩
  two := fun one other h1 h2 => by
    have a := mk_mdc (Nat.le_refl 2) h1
    have b := oth_mdc h1 h2
    refine ⟨twoP (gg := 14) (e := 33) a b (by decide) (by decide) (by decide) (by decide) ?_ (by decide) (by decide) (by decide), twoP (gg := 33) (e := 14) b a (by decide) (by decide) (by decide) (by decide) ?_ (by decide) (by decide) (by decide), fun p hp => by have := b.wb p hp; omega⟩
    · simp [bud]
    · simp [bud]
end Gw
set_option maxHeartbeats 0
namespace Gw
open PySem PySem.Spec PyProof.Rows L2 He
theorem relV_non : RelV .non .none := rfl
theorem Vals.getD {vs : List V} {us : List Value} (h : Vals vs us) : ∀ i : Nat, RelV (vs.getD i .non) (us.getD i .none) := by
  induction h with
  | nil => intro i; exact relV_non
  | cons r _ ih =>
    intro i
    cases i with
    | zero => exact r
    | succ i => exact ih i
theorem kbn_of {K : PySem.W.Frag} {x qual : Str} {params : Arguments} {body : List Stmt} {scope : Scope} {f : Addr} {fd : FuncData} {ps : List Str} (F : FunD K x qual params body scope [] [] f fd) (n : Nat) (ks : List Str) (g : List Value → List Value → List Value) (gV : List V → List V → List V)
    (hrel : ∀ {vs : List V} {us : List Value} {zs : List V} {ws : List Value}, Vals vs us → Vals zs ws → Vals (gV vs zs) (g us ws))
    (h : ∀ (kV doc pm : Value) (an : Option Addr) (cdv ct : Value) (us ws : List Value), us.length = n → ws.length = ks.length → bindArgs (PySem.W.fnOf x qual params body scope .none kV doc pm an cdv ct) ⟨us, ks.zip ws⟩ = pure (ps.zip (g us ws))) : KBn K fd ps n ks g gV := by
  obtain ⟨oc, od, dV, kV, doc, pm, an, cdv, ct, osl, rfl, lk, hcd, hD, hK⟩ := F.ex
  rcases hD with ⟨_, rfl⟩ | ⟨e, _⟩
  · exact ⟨fun s us ws X l1 l2 => .of_eq (h kV doc pm an cdv ct us ws l1 l2), hrel⟩
  · exact absurd rfl e
theorem rep_ok {K : PySem.W.Frag} (h : xRepr K = true) : PySem.W.findIn K (.ref (cRat K)) "__repr__" = some (some (.ref (ma K (cRat K) "__repr__"))) ∧ PySem.W.isFn K (.ref (ma K (cRat K) "__repr__")) = true := by
  obtain ⟨h1, h2⟩ := ba h
  exact ⟨eqO_ok h1, h2⟩
theorem ratd_ok {K : PySem.W.Frag} (h : xRatD K = true) : RatD K (cRat K) := by
  obtain ⟨h1, h2⟩ := ba h
  exact ⟨fun n hn => of_decide_eq_true (List.all_eq_true.mp h1 n hn), fun n hn => of_decide_eq_true (List.all_eq_true.mp h2 n hn)⟩
theorem spm_ok {K : PySem.W.Frag} {m : Str} (h : xSpM K m = true) : PySem.W.findIn K (.ref (cRat K)) m = some (some (.ref (ma K (cRat K) m))) ∧ PySem.W.isFn K (.ref (ma K (cRat K) m)) = true := by
  obtain ⟨h1, h2⟩ := ba h
  exact ⟨eqO_ok h1, h2⟩
theorem hFacts {P : Program} {w : World} {K : PySem.W.Frag} {h : Heap} {mg : Str → Option Value} {f : Addr} (X : K.In h) (G : h.Ns mainGlobals mg) (hfa : mg ("law" : Str) = some (.ref f)) (c : SaysA hFa hFn hDa hEx K) :
    ∃ fd : FuncData, (∀ (s : Shared) (v : Value), BindsTo s fd ⟨[v], []⟩ [("script", v)]) ∧ ∀ base : Heap, K.In base → base.Ns mainGlobals mg → FnG P w K mg base CX0 18 f fd ["script"] (spLaw K) := by
  obtain ⟨fd_is_integer, F_is_integer⟩ := c.d.def_ 0 (d := d_is_integer) rfl
  obtain ⟨fd_is_list, F_is_list⟩ := c.d.def_ 1 (d := d_is_list) rfl
  obtain ⟨fd_digits_of, F_digits_of⟩ := c.d.def_ 2 (d := d_digits_of) rfl
  obtain ⟨fd_divisor_of, F_divisor_of⟩ := c.d.def_ 3 (d := d_divisor_of) rfl
  obtain ⟨fd_told_pair, F_told_pair⟩ := c.d.def_ 4 (d := d_told_pair) rfl
  obtain ⟨fd_is_number, F_is_number⟩ := c.d.def_ 5 (d := d_is_number) rfl
  obtain ⟨fd_ratio_of, F_ratio_of⟩ := c.d.def_ 6 (d := d_ratio_of) rfl
  obtain ⟨fd_want_number, F_want_number⟩ := c.d.def_ 7 (d := d_want_number) rfl
  obtain ⟨fd_total_of, F_total_of⟩ := c.d.def_ 8 (d := d_total_of) rfl
  obtain ⟨fd_is_part, F_is_part⟩ := c.d.def_ 9 (d := d_is_part) rfl
  obtain ⟨fd_guess_in, F_guess_in⟩ := c.d.def_ 10 (d := d_guess_in) rfl
  obtain ⟨fd_want_guess, F_want_guess⟩ := c.d.def_ 11 (d := d_want_guess) rfl
  obtain ⟨fd_above, F_above⟩ := c.d.def_ 12 (d := d_above) rfl
  obtain ⟨fd_is_hinge_of, F_is_hinge_of⟩ := c.d.def_ 13 (d := d_is_hinge_of) rfl
  obtain ⟨fd_hinge_of, F_hinge_of⟩ := c.d.def_ 14 (d := d_hinge_of) rfl
  obtain ⟨fd_ends_of, F_ends_of⟩ := c.d.def_ 15 (d := d_ends_of) rfl
  obtain ⟨fd_lesser, F_lesser⟩ := c.d.def_ 16 (d := d_lesser) rfl
  obtain ⟨fd_greater, F_greater⟩ := c.d.def_ 17 (d := d_greater) rfl
  obtain ⟨fd_taken_from, F_taken_from⟩ := c.d.def_ 18 (d := d_taken_from) rfl
  obtain ⟨fd_worth_of, F_worth_of⟩ := c.d.def_ 19 (d := d_worth_of) rfl
  obtain ⟨fd_begins_of, F_begins_of⟩ := c.d.def_ 20 (d := d_begins_of) rfl
  obtain ⟨fd_stretch_of, F_stretch_of⟩ := c.d.def_ 21 (d := d_stretch_of) rfl
  obtain ⟨fd_splitting_of, F_splitting_of⟩ := c.d.def_ 22 (d := d_splitting_of) rfl
  obtain ⟨fd_are_chances, F_are_chances⟩ := c.d.def_ 23 (d := d_are_chances) rfl
  obtain ⟨fd_is_splitting_of, F_is_splitting_of⟩ := c.d.def_ 24 (d := d_is_splitting_of) rfl
  obtain ⟨fd_splitting, F_splitting⟩ := c.d.def_ 25 (d := d_splitting) rfl
  obtain ⟨fd_is_splitting, F_is_splitting⟩ := c.d.def_ 26 (d := d_is_splitting) rfl
  obtain ⟨fd_is_hinge, F_is_hinge⟩ := c.d.def_ 27 (d := d_is_hinge) rfl
  obtain ⟨fd__law_pot, F__law_pot⟩ := c.d.def_ 28 (d := d__law_pot) rfl
  obtain ⟨fd__law_draw, F__law_draw⟩ := c.d.def_ 29 (d := d__law_draw) rfl
  obtain ⟨fd__law_pick, F__law_pick⟩ := c.d.def_ 30 (d := d__law_pick) rfl
  obtain ⟨fd__law_joined, F__law_joined⟩ := c.d.def_ 31 (d := d__law_joined) rfl
  obtain ⟨fd__law_spread_out, F__law_spread_out⟩ := c.d.def_ 32 (d := d__law_spread_out) rfl
  obtain ⟨fd__law_guess, F__law_guess⟩ := c.d.def_ 33 (d := d__law_guess) rfl
  obtain ⟨fd__law_handed, F__law_handed⟩ := c.d.def_ 34 (d := d__law_handed) rfl
  obtain ⟨fd__law_above, F__law_above⟩ := c.d.def_ 35 (d := d__law_above) rfl
  obtain ⟨fd__law_is_hinge, F__law_is_hinge⟩ := c.d.def_ 36 (d := d__law_is_hinge) rfl
  obtain ⟨fd__law_has_hinge, F__law_has_hinge⟩ := c.d.def_ 37 (d := d__law_has_hinge) rfl
  obtain ⟨fd__law_is_number, F__law_is_number⟩ := c.d.def_ 38 (d := d__law_is_number) rfl
  obtain ⟨fd__law_is_splitting, F__law_is_splitting⟩ := c.d.def_ 39 (d := d__law_is_splitting) rfl
  obtain ⟨fd__law_even, F__law_even⟩ := c.d.def_ 40 (d := d__law_even) rfl
  obtain ⟨fd__law_bent_row, F__law_bent_row⟩ := c.d.def_ 41 (d := d__law_bent_row) rfl
  obtain ⟨fd__law_bent, F__law_bent⟩ := c.d.def_ 42 (d := d__law_bent) rfl
  obtain ⟨fd__law_out, F__law_out⟩ := c.d.def_ 43 (d := d__law_out) rfl
  obtain ⟨fd__law_splittings_right, F__law_splittings_right⟩ := c.d.def_ 44 (d := d__law_splittings_right) rfl
  obtain ⟨fd__law_hinges_right, F__law_hinges_right⟩ := c.d.def_ 45 (d := d__law_hinges_right) rfl
  obtain ⟨fd_law, F_law⟩ := c.d.def_ 46 (d := d_law) rfl
  obtain ⟨fd_R__init__, F_R__init__⟩ := c.d.def_ 47 (d := d_R__init__) rfl
  obtain ⟨fd_R__add__, F_R__add__⟩ := c.d.def_ 48 (d := d_R__add__) rfl
  obtain ⟨fd_R__sub__, F_R__sub__⟩ := c.d.def_ 49 (d := d_R__sub__) rfl
  obtain ⟨fd_R__rsub__, F_R__rsub__⟩ := c.d.def_ 50 (d := d_R__rsub__) rfl
  obtain ⟨fd_R__mul__, F_R__mul__⟩ := c.d.def_ 51 (d := d_R__mul__) rfl
  obtain ⟨fd_Rover, F_Rover⟩ := c.d.def_ 52 (d := d_Rover) rfl
  obtain ⟨fd_Ris_below, F_Ris_below⟩ := c.d.def_ 53 (d := d_Ris_below) rfl
  obtain ⟨fd_R__eq__, F_R__eq__⟩ := c.d.def_ 54 (d := d_R__eq__) rfl
  obtain ⟨fd_Ris_at_most, F_Ris_at_most⟩ := c.d.def_ 55 (d := d_Ris_at_most) rfl
  obtain ⟨fd_R__repr__, F_R__repr__⟩ := c.d.def_ 56 (d := d_R__repr__) rfl
  obtain ⟨fd_R__neg__, F_R__neg__⟩ := c.d.def_ 57 (d := d_R__neg__) rfl
  obtain ⟨fd_R__str__, F_R__str__⟩ := c.d.def_ 58 (d := d_R__str__) rfl
  obtain ⟨fd_Rsign, F_Rsign⟩ := c.a 0 (d := a_Rsign) rfl
  obtain ⟨fd_Rtop, F_Rtop⟩ := c.a 1 (d := a_Rtop) rfl
  obtain ⟨fd_Rtotal, F_Rtotal⟩ := c.a 2 (d := a_Rtotal) rfl
  obtain ⟨x_gcd, y0⟩ := ba c.x
  obtain ⟨x_rat, y1⟩ := ba y0
  obtain ⟨x_add, y2⟩ := ba y1
  obtain ⟨x_sub, y3⟩ := ba y2
  obtain ⟨x_mul, y4⟩ := ba y3
  obtain ⟨x_eq, y5⟩ := ba y4
  obtain ⟨x_repr, y6⟩ := ba y5
  obtain ⟨x_ratd, y7⟩ := ba y6
  obtain ⟨x_strm, y8⟩ := ba y7
  obtain ⟨x_neg, y9⟩ := ba y8
  obtain ⟨x_p_sign, y10⟩ := ba y9
  obtain ⟨x_p_top, y11⟩ := ba y10
  have x_c_total := y11
  have cl : Cls K (cRat K) := cls_ok (c.d.fact 69 (f := .cls "Ratio") rfl)
  have RF : RatF K (cRat K) := rat_ok x_rat cl (noat_ok (c.d.fact 70 (f := .noat "Ratio" "own_top") rfl)) (noat_ok (c.d.fact 71 (f := .noat "Ratio" "own_bottom") rfl))
  have gR : mg ("Ratio" : Str) = some (.ref (cRat K)) := glo_ok X G (c.d.fact 68 (f := .glo "Ratio") rfl)
  have Z : Glo K mg (cRat K) := ⟨free_ok X G (c.d.fact 47 (f := .free "isinstance") rfl), free_ok X G (c.d.fact 48 (f := .free "int") rfl), free_ok X G (c.d.fact 49 (f := .free "bool") rfl), free_ok X G (c.d.fact 50 (f := .free "list") rfl), free_ok X G (c.d.fact 51 (f := .free "tuple") rfl), free_ok X G (c.d.fact 52 (f := .free "len") rfl), free_ok X G (c.d.fact 53 (f := .free "all") rfl), free_ok X G (c.d.fact 54 (f := .free "any") rfl), free_ok X G (c.d.fact 55 (f := .free "sum") rfl), free_ok X G (c.d.fact 56 (f := .free "zip") rfl), free_ok X G (c.d.fact 57 (f := .free "enumerate") rfl), free_ok X G (c.d.fact 58 (f := .free "range") rfl), free_ok X G (c.d.fact 59 (f := .free "abs") rfl), free_ok X G (c.d.fact 60 (f := .free "max") rfl), free_ok X G (c.d.fact 61 (f := .free "divmod") rfl), PySem.W.mg_of X G (eqO_ok x_gcd), gR, int_ok X G (c.d.fact 66 (f := .int "MOST_PARTS" 4) rfl), int_ok X G (c.d.fact 67 (f := .int "PART" 1000000000000000000000000000000000000000000000000000000000000) rfl), free_ok X G (c.d.fact 62 (f := .free "min") rfl), free_ok X G (c.d.fact 63 (f := .free "sorted") rfl), free_ok X G (c.d.fact 64 (f := .free "repr") rfl), free_ok X G (c.d.fact 65 (f := .free "str") rfl), RF, ratd_ok x_ratd⟩
  have g_is_integer : mg ("is_integer" : Str) = some (.ref (ga K "is_integer")) := glo_ok X G (c.d.fact 0 (f := .glo "is_integer") rfl)
  have g_is_list : mg ("is_list" : Str) = some (.ref (ga K "is_list")) := glo_ok X G (c.d.fact 1 (f := .glo "is_list") rfl)
  have g_digits_of : mg ("digits_of" : Str) = some (.ref (ga K "digits_of")) := glo_ok X G (c.d.fact 2 (f := .glo "digits_of") rfl)
  have g_divisor_of : mg ("divisor_of" : Str) = some (.ref (ga K "divisor_of")) := glo_ok X G (c.d.fact 3 (f := .glo "divisor_of") rfl)
  have g_told_pair : mg ("told_pair" : Str) = some (.ref (ga K "told_pair")) := glo_ok X G (c.d.fact 4 (f := .glo "told_pair") rfl)
  have g_is_number : mg ("is_number" : Str) = some (.ref (ga K "is_number")) := glo_ok X G (c.d.fact 5 (f := .glo "is_number") rfl)
  have g_ratio_of : mg ("ratio_of" : Str) = some (.ref (ga K "ratio_of")) := glo_ok X G (c.d.fact 6 (f := .glo "ratio_of") rfl)
  have g_want_number : mg ("want_number" : Str) = some (.ref (ga K "want_number")) := glo_ok X G (c.d.fact 7 (f := .glo "want_number") rfl)
  have g_total_of : mg ("total_of" : Str) = some (.ref (ga K "total_of")) := glo_ok X G (c.d.fact 8 (f := .glo "total_of") rfl)
  have g_is_part : mg ("is_part" : Str) = some (.ref (ga K "is_part")) := glo_ok X G (c.d.fact 9 (f := .glo "is_part") rfl)
  have g_guess_in : mg ("guess_in" : Str) = some (.ref (ga K "guess_in")) := glo_ok X G (c.d.fact 10 (f := .glo "guess_in") rfl)
  have g_want_guess : mg ("want_guess" : Str) = some (.ref (ga K "want_guess")) := glo_ok X G (c.d.fact 11 (f := .glo "want_guess") rfl)
  have g_above : mg ("above" : Str) = some (.ref (ga K "above")) := glo_ok X G (c.d.fact 12 (f := .glo "above") rfl)
  have g_is_hinge_of : mg ("is_hinge_of" : Str) = some (.ref (ga K "is_hinge_of")) := glo_ok X G (c.d.fact 13 (f := .glo "is_hinge_of") rfl)
  have g_hinge_of : mg ("hinge_of" : Str) = some (.ref (ga K "hinge_of")) := glo_ok X G (c.d.fact 14 (f := .glo "hinge_of") rfl)
  have g_ends_of : mg ("ends_of" : Str) = some (.ref (ga K "ends_of")) := glo_ok X G (c.d.fact 15 (f := .glo "ends_of") rfl)
  have g_lesser : mg ("lesser" : Str) = some (.ref (ga K "lesser")) := glo_ok X G (c.d.fact 16 (f := .glo "lesser") rfl)
  have g_greater : mg ("greater" : Str) = some (.ref (ga K "greater")) := glo_ok X G (c.d.fact 17 (f := .glo "greater") rfl)
  have g_taken_from : mg ("taken_from" : Str) = some (.ref (ga K "taken_from")) := glo_ok X G (c.d.fact 18 (f := .glo "taken_from") rfl)
  have g_worth_of : mg ("worth_of" : Str) = some (.ref (ga K "worth_of")) := glo_ok X G (c.d.fact 19 (f := .glo "worth_of") rfl)
  have g_begins_of : mg ("begins_of" : Str) = some (.ref (ga K "begins_of")) := glo_ok X G (c.d.fact 20 (f := .glo "begins_of") rfl)
  have g_stretch_of : mg ("stretch_of" : Str) = some (.ref (ga K "stretch_of")) := glo_ok X G (c.d.fact 21 (f := .glo "stretch_of") rfl)
  have g_splitting_of : mg ("splitting_of" : Str) = some (.ref (ga K "splitting_of")) := glo_ok X G (c.d.fact 22 (f := .glo "splitting_of") rfl)
  have g_are_chances : mg ("are_chances" : Str) = some (.ref (ga K "are_chances")) := glo_ok X G (c.d.fact 23 (f := .glo "are_chances") rfl)
  have g_is_splitting_of : mg ("is_splitting_of" : Str) = some (.ref (ga K "is_splitting_of")) := glo_ok X G (c.d.fact 24 (f := .glo "is_splitting_of") rfl)
  have g_splitting : mg ("splitting" : Str) = some (.ref (ga K "splitting")) := glo_ok X G (c.d.fact 25 (f := .glo "splitting") rfl)
  have g_is_splitting : mg ("is_splitting" : Str) = some (.ref (ga K "is_splitting")) := glo_ok X G (c.d.fact 26 (f := .glo "is_splitting") rfl)
  have g_is_hinge : mg ("is_hinge" : Str) = some (.ref (ga K "is_hinge")) := glo_ok X G (c.d.fact 27 (f := .glo "is_hinge") rfl)
  have g__law_pot : mg ("_law_pot" : Str) = some (.ref (ga K "_law_pot")) := glo_ok X G (c.d.fact 28 (f := .glo "_law_pot") rfl)
  have g__law_draw : mg ("_law_draw" : Str) = some (.ref (ga K "_law_draw")) := glo_ok X G (c.d.fact 29 (f := .glo "_law_draw") rfl)
  have g__law_pick : mg ("_law_pick" : Str) = some (.ref (ga K "_law_pick")) := glo_ok X G (c.d.fact 30 (f := .glo "_law_pick") rfl)
  have g__law_joined : mg ("_law_joined" : Str) = some (.ref (ga K "_law_joined")) := glo_ok X G (c.d.fact 31 (f := .glo "_law_joined") rfl)
  have g__law_spread_out : mg ("_law_spread_out" : Str) = some (.ref (ga K "_law_spread_out")) := glo_ok X G (c.d.fact 32 (f := .glo "_law_spread_out") rfl)
  have g__law_guess : mg ("_law_guess" : Str) = some (.ref (ga K "_law_guess")) := glo_ok X G (c.d.fact 33 (f := .glo "_law_guess") rfl)
  have g__law_handed : mg ("_law_handed" : Str) = some (.ref (ga K "_law_handed")) := glo_ok X G (c.d.fact 34 (f := .glo "_law_handed") rfl)
  have g__law_above : mg ("_law_above" : Str) = some (.ref (ga K "_law_above")) := glo_ok X G (c.d.fact 35 (f := .glo "_law_above") rfl)
  have g__law_is_hinge : mg ("_law_is_hinge" : Str) = some (.ref (ga K "_law_is_hinge")) := glo_ok X G (c.d.fact 36 (f := .glo "_law_is_hinge") rfl)
  have g__law_has_hinge : mg ("_law_has_hinge" : Str) = some (.ref (ga K "_law_has_hinge")) := glo_ok X G (c.d.fact 37 (f := .glo "_law_has_hinge") rfl)
  have g__law_is_number : mg ("_law_is_number" : Str) = some (.ref (ga K "_law_is_number")) := glo_ok X G (c.d.fact 38 (f := .glo "_law_is_number") rfl)
  have g__law_is_splitting : mg ("_law_is_splitting" : Str) = some (.ref (ga K "_law_is_splitting")) := glo_ok X G (c.d.fact 39 (f := .glo "_law_is_splitting") rfl)
  have g__law_even : mg ("_law_even" : Str) = some (.ref (ga K "_law_even")) := glo_ok X G (c.d.fact 40 (f := .glo "_law_even") rfl)
  have g__law_bent_row : mg ("_law_bent_row" : Str) = some (.ref (ga K "_law_bent_row")) := glo_ok X G (c.d.fact 41 (f := .glo "_law_bent_row") rfl)
  have g__law_bent : mg ("_law_bent" : Str) = some (.ref (ga K "_law_bent")) := glo_ok X G (c.d.fact 42 (f := .glo "_law_bent") rfl)
  have g__law_out : mg ("_law_out" : Str) = some (.ref (ga K "_law_out")) := glo_ok X G (c.d.fact 43 (f := .glo "_law_out") rfl)
  have g__law_splittings_right : mg ("_law_splittings_right" : Str) = some (.ref (ga K "_law_splittings_right")) := glo_ok X G (c.d.fact 44 (f := .glo "_law_splittings_right") rfl)
  have g__law_hinges_right : mg ("_law_hinges_right" : Str) = some (.ref (ga K "_law_hinges_right")) := glo_ok X G (c.d.fact 45 (f := .glo "_law_hinges_right") rfl)
  have g_law : mg ("law" : Str) = some (.ref (ga K "law")) := glo_ok X G (c.d.fact 46 (f := .glo "law") rfl)
  have e := hfa.symm.trans g_law
  cases e
  have b := FunD.bindsA (ps := ["script"]) F_law fun _ _ _ _ _ _ us hl => match us, hl with | [_], _ => rfl
  refine ⟨fd_law, fun s v => b s [v] rfl, fun base _ _ => ?_⟩
  have k__law_pot : Kn__law_pot P w K mg base (cRat K) := ⟨_, _, g__law_pot, F__law_pot.kp, F__law_pot.bindsN fun _ _ _ _ _ _ us hl => match us, hl with | [_, _], _ => rfl, (ok__law_pot Z F__law_pot)⟩
  have k__law_draw : Kn__law_draw P w K mg base (cRat K) := ⟨_, _, g__law_draw, F__law_draw.kp, F__law_draw.bindsN fun _ _ _ _ _ _ us hl => match us, hl with | [_, _], _ => rfl, (ok__law_draw Z F__law_draw)⟩
  have k_is_integer : Kn_is_integer P w K mg base (cRat K) := ⟨_, _, g_is_integer, F_is_integer.kp, F_is_integer.bindsN fun _ _ _ _ _ _ us hl => match us, hl with | [_], _ => rfl, (ok_is_integer Z F_is_integer)⟩
  have k_divisor_of : Kn_divisor_of P w K mg base (cRat K) := ⟨_, _, g_divisor_of, F_divisor_of.kp, F_divisor_of.bindsN fun _ _ _ _ _ _ us hl => match us, hl with | [_, _], _ => rfl, (ok_divisor_of Z F_divisor_of)⟩
  have mk : Mkr P w K mg base (cRat K) 2 := by
    obtain ⟨d0, v0, b0⟩ := F_R__init__.binds1 (ps := ["self", "top", "bottom"]) 3 1 (by intro q; cases q) rfl fun _ _ _ _ _ _ _ us its hl h2 => match us, its, hl, h2 with | [_, _, _], [_], _, _ => ⟨_, rfl, rfl⟩
    obtain ⟨d1, v1, b1⟩ := F_R__init__.binds1 (ps := ["self", "top", "bottom"]) 2 0 (by intro q; cases q) rfl fun _ _ _ _ _ _ _ us its hl h2 => match us, its, hl, h2 with | [_, _], [_], _, _ => ⟨_, rfl, rfl⟩
    cases v0
    exact ⟨gR, _, _, d1, mkr_ok (c.d.fact 72 (f := .mkr "Ratio") rfl), (ok_R__init__ Z k_is_integer k_divisor_of F_R__init__), b0, v1, b1⟩
  have k_told_pair : Kn_told_pair P w K mg base (cRat K) := ⟨_, _, g_told_pair, F_told_pair.kp, F_told_pair.bindsN fun _ _ _ _ _ _ us hl => match us, hl with | [_], _ => rfl, (ok_told_pair Z k_is_integer F_told_pair)⟩
  have omul : Opr P w K mg base (cRat K) .Mult 6 (fun w => Fits w.1 w.2) (· * ·) := ⟨_, _, _, op_ok x_mul, (ok_R__mul__ Z mk k_told_pair F_R__mul__), F_R__mul__.bindsN fun _ _ _ _ _ _ us hl => match us, hl with | [_, _], _ => rfl⟩
  have k__law_pick : Kn__law_pick P w K mg base (cRat K) := ⟨_, _, g__law_pick, F__law_pick.kp, F__law_pick.bindsN fun _ _ _ _ _ _ us hl => match us, hl with | [_, _], _ => rfl, (ok__law_pick Z k__law_draw F__law_pick)⟩
  have k_is_list : Kn_is_list P w K mg base (cRat K) := ⟨_, _, g_is_list, F_is_list.kp, F_is_list.bindsN fun _ _ _ _ _ _ us hl => match us, hl with | [_], _ => rfl, (ok_is_list Z F_is_list)⟩
  have oadd : Opr P w K mg base (cRat K) .Add 6 (fun w => Fits w.1 w.2) (· + ·) := ⟨_, _, _, op_ok x_add, (ok_R__add__ Z mk k_told_pair F_R__add__), F_R__add__.bindsN fun _ _ _ _ _ _ us hl => match us, hl with | [_, _], _ => rfl⟩
  have k_total_of : Kn_total_of P w K mg base (cRat K) := ⟨_, _, g_total_of, F_total_of.kp, F_total_of.bindsN fun _ _ _ _ _ _ us hl => match us, hl with | [_], _ => rfl, (ok_total_of Z mk oadd F_total_of)⟩
  have k_is_number : Kn_is_number P w K mg base (cRat K) := ⟨_, _, g_is_number, F_is_number.kp, F_is_number.bindsN fun _ _ _ _ _ _ us hl => match us, hl with | [_], _ => rfl, (ok_is_number Z k_is_integer F_is_number)⟩
  have k_ratio_of : Kn_ratio_of P w K mg base (cRat K) := ⟨_, _, g_ratio_of, F_ratio_of.kp, F_ratio_of.bindsN fun _ _ _ _ _ _ us hl => match us, hl with | [_], _ => rfl, (ok_ratio_of Z mk F_ratio_of)⟩
  have k_want_number : Kn_want_number P w K mg base (cRat K) := ⟨_, _, g_want_number, F_want_number.kp, F_want_number.bindsN fun _ _ _ _ _ _ us hl => match us, hl with | [_], _ => rfl, (ok_want_number Z k_is_number k_ratio_of F_want_number)⟩
  have ctotal : CmK P w K mg base (cRat K) "total" 12 (sp_Rtotal (cRat K)) := by
    obtain ⟨q1, q2⟩ := cm_ok x_c_total
    refine ⟨_, _, _, q1, q2, ((FnOk.raw (ok_Rtotal Z k_is_list k_total_of k_want_number F_Rtotal) (F_Rtotal.bindsN fun _ _ _ _ _ _ us hl => match us, hl with | [_, _], _ => rfl) .nil).mono (by decide)).imp fun vs H Q E hs => ?_⟩
    rw [List.append_nil]
    exact hs
  have k__law_joined : Kn__law_joined P w K mg base (cRat K) := ⟨_, _, g__law_joined, F__law_joined.kp, F__law_joined.bindsN fun _ _ _ _ _ _ us hl => match us, hl with | [_], _ => rfl, (ok__law_joined Z ctotal F__law_joined)⟩
  have k__law_spread_out : Kn__law_spread_out P w K mg base (cRat K) := ⟨_, _, g__law_spread_out, F__law_spread_out.kp, F__law_spread_out.bindsN fun _ _ _ _ _ _ us hl => match us, hl with | [_, _, _], _ => rfl, (ok__law_spread_out Z mk omul k__law_draw k__law_pick k__law_joined F__law_spread_out)⟩
  have k__law_guess : Kn__law_guess P w K mg base (cRat K) := ⟨_, _, g__law_guess, F__law_guess.kp, F__law_guess.bindsN fun _ _ _ _ _ _ us hl => match us, hl with | [_, _], _ => rfl, (ok__law_guess Z mathP mk k__law_draw k__law_spread_out F__law_guess)⟩
  have k_digits_of : Kn_digits_of P w K mg base (cRat K) := ⟨_, _, g_digits_of, F_digits_of.kp, F_digits_of.bindsN fun _ _ _ _ _ _ us hl => match us, hl with | [_], _ => rfl, (ok_digits_of Z F_digits_of)⟩
  have T : RepF P w K mg base (cRat K) 2 Wd repS := by
    obtain ⟨q1, q2⟩ := rep_ok x_repr
    exact ⟨_, _, q1, q2, F_R__repr__.bindsN fun _ _ _ _ _ _ us hl => match us, hl with | [_], _ => rfl, (ok_R__repr__ Z k_digits_of F_R__repr__)⟩
  have mover : MethK P w K mg base (cRat K) "over" 6 ["self", "other"] (sp_Rover (cRat K)) := ⟨_, _, cl, meth_ok (c.d.fact 73 (f := .meth "Ratio" "over") rfl), (ok_Rover Z mk k_told_pair F_Rover), F_Rover.bindsN fun _ _ _ _ _ _ us hl => match us, hl with | [_, _], _ => rfl⟩
  have oneg : NegK P w K mg base (cRat K) 4 fun q : Rat => q.den<2^9000 := by
    obtain ⟨q1, q2⟩ := spm_ok x_neg
    exact ⟨_, _, q1, q2, F_R__neg__.bindsN fun _ _ _ _ _ _ us hl => match us, hl with | [_], _ => rfl, (ok_R__neg__ Z mk F_R__neg__)⟩
  have psign : PropK P w K mg base (cRat K) "sign" 1 (sp_Rsign (cRat K)) := ⟨_, _, _, cl, prop_ok x_p_sign, (ok_Rsign Z F_Rsign), F_Rsign.bindsN fun _ _ _ _ _ _ us hl => match us, hl with | [_], _ => rfl⟩
  have k_is_part : Kn_is_part P w K mg base (cRat K) := ⟨_, _, g_is_part, F_is_part.kp, F_is_part.bindsN fun _ _ _ _ _ _ us hl => match us, hl with | [_], _ => rfl, (ok_is_part Z k_is_number k_ratio_of psign F_is_part)⟩
  have mbelow : MethK P w K mg base (cRat K) "is_below" 6 ["self", "other"] (sp_Ris_below (cRat K)) := ⟨_, _, cl, meth_ok (c.d.fact 74 (f := .meth "Ratio" "is_below") rfl), (ok_Ris_below Z k_told_pair F_Ris_below), F_Ris_below.bindsN fun _ _ _ _ _ _ us hl => match us, hl with | [_, _], _ => rfl⟩
  have oeq : EqK P w K mg base (cRat K) 1 := by
    obtain ⟨q1, q2, q3, q4⟩ := eq_ok x_eq
    exact ⟨_, _, q1, q2, q3, q4, (ok_R__eq__ Z F_R__eq__), F_R__eq__.bindsN fun _ _ _ _ _ _ us hl => match us, hl with | [_, _], _ => rfl⟩
  have k_guess_in : Kn_guess_in P w K mg base (cRat K) := ⟨_, _, g_guess_in, F_guess_in.kp, F_guess_in.bindsN fun _ _ _ _ _ _ us hl => match us, hl with | [_], _ => rfl, (ok_guess_in Z k_is_list k_is_part k_ratio_of mbelow omul k_total_of mk oeq F_guess_in)⟩
  have k_want_guess : Kn_want_guess P w K mg base (cRat K) := ⟨_, _, g_want_guess, F_want_guess.kp, F_want_guess.bindsN fun _ _ _ _ _ _ us hl => match us, hl with | [_], _ => rfl, (ok_want_guess Z k_guess_in F_want_guess)⟩
  have k_is_list__D : Kn_is_list__D P w K mg base (cRat K) := ⟨_, _, g_is_list, F_is_list.kp, F_is_list.bindsN fun _ _ _ _ _ _ us hl => match us, hl with | [_], _ => rfl, (ok_is_list__D Z F_is_list)⟩
  have k_is_integer__D : Kn_is_integer__D P w K mg base (cRat K) := ⟨_, _, g_is_integer, F_is_integer.kp, F_is_integer.bindsN fun _ _ _ _ _ _ us hl => match us, hl with | [_], _ => rfl, (ok_is_integer__D Z F_is_integer)⟩
  have k_is_number__D : Kn_is_number__D P w K mg base (cRat K) := ⟨_, _, g_is_number, F_is_number.kp, F_is_number.bindsN fun _ _ _ _ _ _ us hl => match us, hl with | [_], _ => rfl, (ok_is_number__D Z k_is_integer__D F_is_number)⟩
  have k_are_chances__D : Kn_are_chances__D P w K mg base (cRat K) := ⟨_, _, g_are_chances, F_are_chances.kp, F_are_chances.bindsN fun _ _ _ _ _ _ us hl => match us, hl with | [_, _], _ => rfl, (ok_are_chances__D Z k_is_list k_is_list__D k_is_number__D k_ratio_of psign k_total_of mk oeq F_are_chances)⟩
  have k_is_splitting_of__D : Kn_is_splitting_of__D P w K mg base (cRat K) := ⟨_, _, g_is_splitting_of, F_is_splitting_of.kp, F_is_splitting_of.bindsN fun _ _ _ _ _ _ us hl => match us, hl with | [_, _, _], _ => rfl, (ok_is_splitting_of__D Z k_is_list k_is_list__D k_are_chances__D k_total_of omul oeq F_is_splitting_of)⟩
  have kws : KnK P w K mg base "is_splitting" 10 ["guess", "other", "value"] (sp_is_splitting__D (cRat K)) 0 ["value", "guess", "other"] (fun _ ws => [ws.getD 1 .non, ws.getD 2 .non, ws.getD 0 .non]) := ⟨_, _, fun _ ws => [ws.getD 1 .none, ws.getD 2 .none, ws.getD 0 .none], g_is_splitting, F_is_splitting.kp, kbn_of F_is_splitting 0 ["value", "guess", "other"] _ _ (fun _ r => (.cons (Vals.getD r 1) (.cons (Vals.getD r 2) (.cons (Vals.getD r 0) .nil)))) (fun _ _ _ _ _ _ us ws hl h2 => match us, ws, hl, h2 with | [], [_, _, _], _, _ => rfl), (ok_is_splitting__D Z k_want_guess k_is_splitting_of__D F_is_splitting)⟩
  have osub : Opr P w K mg base (cRat K) .Sub 6 (fun w => Fits w.1 w.2) (· - ·) := ⟨_, _, _, op_ok x_sub, (ok_R__sub__ Z mk k_told_pair F_R__sub__), F_R__sub__.bindsN fun _ _ _ _ _ _ us hl => match us, hl with | [_, _], _ => rfl⟩
  have orsub : OprR P w K mg base (cRat K) .Sub 6 (fun w => Fits w.1 w.2) (fun q r => r - q) := ⟨_, _, _, op_ok x_sub, (ok_R__rsub__ Z mk k_told_pair F_R__rsub__), F_R__rsub__.bindsN fun _ _ _ _ _ _ us hl => match us, hl with | [_, _], _ => rfl⟩
  have k__law_above : Kn__law_above P w K mg base (cRat K) := ⟨_, _, g__law_above, F__law_above.kp, F__law_above.bindsN fun _ _ _ _ _ _ us hl => match us, hl with | [_, _], _ => rfl, (ok__law_above Z omul osub orsub psign ctotal F__law_above)⟩
  have k__law_is_hinge : Kn__law_is_hinge P w K mg base (cRat K) := ⟨_, _, g__law_is_hinge, F__law_is_hinge.kp, F__law_is_hinge.bindsN fun _ _ _ _ _ _ us hl => match us, hl with | [_, _, _], _ => rfl, (ok__law_is_hinge Z k__law_above mbelow F__law_is_hinge)⟩
  have k__law_has_hinge : Kn__law_has_hinge P w K mg base (cRat K) := ⟨_, _, g__law_has_hinge, F__law_has_hinge.kp, F__law_has_hinge.bindsN fun _ _ _ _ _ _ us hl => match us, hl with | [_, _], _ => rfl, (ok__law_has_hinge Z mk k__law_is_hinge F__law_has_hinge)⟩
  have k__law_handed : Kn__law_handed P w K mg base (cRat K) := ⟨_, _, g__law_handed, F__law_handed.kp, F__law_handed.bindsN fun _ _ _ _ _ _ us hl => match us, hl with | [_], _ => rfl, (ok__law_handed Z mk F__law_handed)⟩
  have k_above : Kn_above P w K mg base (cRat K) := ⟨_, _, g_above, F_above.kp, F_above.bindsN fun _ _ _ _ _ _ us hl => match us, hl with | [_, _], _ => rfl, (ok_above Z omul osub k_total_of mbelow F_above)⟩
  have k_is_hinge_of : Kn_is_hinge_of P w K mg base (cRat K) := ⟨_, _, g_is_hinge_of, F_is_hinge_of.kp, F_is_hinge_of.bindsN fun _ _ _ _ _ _ us hl => match us, hl with | [_, _, _], _ => rfl, (ok_is_hinge_of Z k_above mbelow F_is_hinge_of)⟩
  have k_hinge_of : Kn_hinge_of P w K mg base (cRat K) := ⟨_, _, g_hinge_of, F_hinge_of.kp, F_hinge_of.bindsN fun _ _ _ _ _ _ us hl => match us, hl with | [_, _], _ => rfl, (ok_hinge_of Z k_is_hinge_of F_hinge_of)⟩
  have k_ends_of : Kn_ends_of P w K mg base (cRat K) := ⟨_, _, g_ends_of, F_ends_of.kp, F_ends_of.bindsN fun _ _ _ _ _ _ us hl => match us, hl with | [_], _ => rfl, (ok_ends_of Z mk oadd F_ends_of)⟩
  have matmost : MethK P w K mg base (cRat K) "is_at_most" 6 ["self", "other"] (sp_Ris_at_most (cRat K)) := ⟨_, _, cl, meth_ok (c.d.fact 75 (f := .meth "Ratio" "is_at_most") rfl), (ok_Ris_at_most Z k_told_pair F_Ris_at_most), F_Ris_at_most.bindsN fun _ _ _ _ _ _ us hl => match us, hl with | [_, _], _ => rfl⟩
  have k_lesser : Kn_lesser P w K mg base (cRat K) := ⟨_, _, g_lesser, F_lesser.kp, F_lesser.bindsN fun _ _ _ _ _ _ us hl => match us, hl with | [_, _], _ => rfl, (ok_lesser Z mbelow F_lesser)⟩
  have k_begins_of : Kn_begins_of P w K mg base (cRat K) := ⟨_, _, g_begins_of, F_begins_of.kp, F_begins_of.bindsN fun _ _ _ _ _ _ us hl => match us, hl with | [_, _], _ => rfl, (ok_begins_of Z mk osub psign matmost k_lesser oeq F_begins_of)⟩
  have k_greater : Kn_greater P w K mg base (cRat K) := ⟨_, _, g_greater, F_greater.kp, F_greater.bindsN fun _ _ _ _ _ _ us hl => match us, hl with | [_, _], _ => rfl, (ok_greater Z mbelow F_greater)⟩
  have k_taken_from : Kn_taken_from P w K mg base (cRat K) := ⟨_, _, g_taken_from, F_taken_from.kp, F_taken_from.bindsN fun _ _ _ _ _ _ us hl => match us, hl with | [_, _, _], _ => rfl, (ok_taken_from Z mk oadd osub k_lesser k_greater F_taken_from)⟩
  have k_worth_of : Kn_worth_of P w K mg base (cRat K) := ⟨_, _, g_worth_of, F_worth_of.kp, F_worth_of.bindsN fun _ _ _ _ _ _ us hl => match us, hl with | [_, _], _ => rfl, (ok_worth_of Z omul k_total_of F_worth_of)⟩
  have k_stretch_of : Kn_stretch_of P w K mg base (cRat K) := ⟨_, _, g_stretch_of, F_stretch_of.kp, F_stretch_of.bindsN fun _ _ _ _ _ _ us hl => match us, hl with | [_, _, _, _], _ => rfl, (ok_stretch_of Z k_begins_of k_taken_from k_worth_of matmost oeq mover osub oadd omul F_stretch_of)⟩
  have k_splitting_of : Kn_splitting_of P w K mg base (cRat K) := ⟨_, _, g_splitting_of, F_splitting_of.kp, F_splitting_of.bindsN fun _ _ _ _ _ _ us hl => match us, hl with | [_, _], _ => rfl, (ok_splitting_of Z k_hinge_of k_ends_of k_stretch_of mover osub omul F_splitting_of)⟩
  have k_splitting : Kn_splitting P w K mg base (cRat K) := ⟨_, _, g_splitting, F_splitting.kp, F_splitting.bindsN fun _ _ _ _ _ _ us hl => match us, hl with | [_, _], _ => rfl, (ok_splitting Z k_want_guess k_splitting_of F_splitting)⟩
  have k__law_even : Kn__law_even P w K mg base (cRat K) := ⟨_, _, g__law_even, F__law_even.kp, F__law_even.bindsN fun _ _ _ _ _ _ us hl => match us, hl with | [_, _], _ => rfl, (ok__law_even Z F__law_even)⟩
  have k_is_splitting__D : Kn_is_splitting__D P w K mg base (cRat K) := ⟨_, _, g_is_splitting, F_is_splitting.kp, F_is_splitting.bindsN fun _ _ _ _ _ _ us hl => match us, hl with | [_, _, _], _ => rfl, (ok_is_splitting__D Z k_want_guess k_is_splitting_of__D F_is_splitting)⟩
  have k__law_is_number : Kn__law_is_number P w K mg base (cRat K) := ⟨_, _, g__law_is_number, F__law_is_number.kp, F__law_is_number.bindsN fun _ _ _ _ _ _ us hl => match us, hl with | [_], _ => rfl, (ok__law_is_number Z F__law_is_number)⟩
  have k__law_is_splitting : Kn__law_is_splitting P w K mg base (cRat K) := ⟨_, _, g__law_is_splitting, F__law_is_splitting.kp, F__law_is_splitting.bindsN fun _ _ _ _ _ _ us hl => match us, hl with | [_, _, _], _ => rfl, (ok__law_is_splitting Z k__law_is_number mk oadd omul oeq psign ctotal F__law_is_splitting)⟩
  have k__law_out : Kn__law_out P w K mg base (cRat K) := ⟨_, _, g__law_out, F__law_out.kp, F__law_out.bindsN fun _ _ _ _ _ _ us hl => match us, hl with | [_, _, _], _ => rfl, (ok__law_out Z oadd osub omul F__law_out)⟩
  have ostr : StrK P w K mg base (cRat K) 2 Wd strS := by
    obtain ⟨q1, q2⟩ := spm_ok x_strm
    exact ⟨_, _, q1, q2, F_R__str__.bindsN fun _ _ _ _ _ _ us hl => match us, hl with | [_], _ => rfl, (ok_R__str__ Z k_digits_of F_R__str__)⟩
  have k__law_bent_row : Kn__law_bent_row P w K mg base (cRat K) := ⟨_, _, g__law_bent_row, F__law_bent_row.kp, F__law_bent_row.bindsN fun _ _ _ _ _ _ us hl => match us, hl with | [_, _], _ => rfl, (ok__law_bent_row Z mk oadd osub oneg ostr k__law_draw k__law_pick F__law_bent_row)⟩
  have k__law_bent : Kn__law_bent P w K mg base (cRat K) := ⟨_, _, g__law_bent, F__law_bent.kp, F__law_bent.bindsN fun _ _ _ _ _ _ us hl => match us, hl with | [_, _], _ => rfl, (ok__law_bent Z k__law_draw k__law_bent_row F__law_bent)⟩
  have k__law_splittings_right : Kn__law_splittings_right P w K mg base (cRat K) := ⟨_, _, g__law_splittings_right, F__law_splittings_right.kp, F__law_splittings_right.bindsN fun _ _ _ _ _ _ us hl => match us, hl with | [_, _, _], _ => rfl, (ok__law_splittings_right Z T mk oadd omul mover oneg kws k__law_has_hinge k__law_handed k_splitting k__law_even k_is_splitting__D k__law_is_splitting k__law_out k__law_bent k__law_draw F__law_splittings_right)⟩
  have kwh : KnK P w K mg base "is_hinge" 12 ["guess", "other", "value"] (sp_is_hinge__D (cRat K)) 0 ["value", "other", "guess"] (fun _ ws => [ws.getD 2 .non, ws.getD 1 .non, ws.getD 0 .non]) := ⟨_, _, fun _ ws => [ws.getD 2 .none, ws.getD 1 .none, ws.getD 0 .none], g_is_hinge, F_is_hinge.kp, kbn_of F_is_hinge 0 ["value", "other", "guess"] _ _ (fun _ r => (.cons (Vals.getD r 2) (.cons (Vals.getD r 1) (.cons (Vals.getD r 0) .nil)))) (fun _ _ _ _ _ _ us ws hl h2 => match us, ws, hl, h2 with | [], [_, _, _], _, _ => rfl), (ok_is_hinge__D Z k_want_guess k_is_number__D k_is_hinge_of k_ratio_of F_is_hinge)⟩
  have k_is_hinge__D : Kn_is_hinge__D P w K mg base (cRat K) := ⟨_, _, g_is_hinge, F_is_hinge.kp, F_is_hinge.bindsN fun _ _ _ _ _ _ us hl => match us, hl with | [_, _, _], _ => rfl, (ok_is_hinge__D Z k_want_guess k_is_number__D k_is_hinge_of k_ratio_of F_is_hinge)⟩
  have k__law_hinges_right : Kn__law_hinges_right P w K mg base (cRat K) := ⟨_, _, g__law_hinges_right, F__law_hinges_right.kp, F__law_hinges_right.bindsN fun _ _ _ _ _ _ us hl => match us, hl with | [_, _, _], _ => rfl, (ok__law_hinges_right Z mk oadd omul kwh k__law_handed k_is_hinge__D k__law_is_number k__law_is_hinge k__law_draw F__law_hinges_right)⟩
  exact ok_law Z k__law_pot mathP k__law_draw k__law_guess k__law_spread_out k__law_splittings_right k__law_hinges_right F_law
end Gw
set_option maxHeartbeats 0
open PySem PySem.W PySem.Calls PyProof.Rows
theorem PySem.Challenge.cw_walkworths_k82_any_value_as_splitting_or_holds : PySem.Challenge.rw_walkworths_k82_any_value_as_splitting_or.Holds := by
  w_on; o_law
  refine HandSHeadRun.head_imp (r := Gw.hR) (q := view Gw.hR.prog [0, 60]) (H := Gw.hk) (ob := Gw.hOb) (M := 20000) (loose := Gw.hLoose) (d := HandSHeadRun.topDef Gw.hR.prog 60) (kwd := []) Gw.hOb_eq Gw.hRun
    (by kernel_rfl) (by kernel_rfl) (by kernel_rfl) (by rfl) (by first | assumption | decide +kernel) (by decide +kernel) ⟨rfl, rfl, rfl, rfl, rfl, by decide +kernel⟩ ?hw ?hc
  case hw => w_witness2
  case hc =>
    refine Gw.walk_ofG (l := PySem.Challenge.rw_walkworths_k82_any_value_as_splitting_or) (n := 63) (k := 18) (x := "script") rfl (by decide) (by kernel_rfl) ⟨rfl, by decide, by decide⟩ ?F
    intro w mg fa h Y G hmg0
    obtain ⟨K, KX, c⟩ := Y
    have hmg : mg ("law" : PySem.Str) = some (.ref fa) := by
      have e : (HandSHeadRun.topDef Gw.hR.prog 60).name = ("law" : PySem.Str) := by kernel_rfl
      rw [← e]
      exact hmg0
    obtain ⟨fd, hb, hF⟩ := Gw.hFacts (P := (PySem.Challenge.rw_walkworths_k82_any_value_as_splitting_or).prog) (w := w) KX G hmg c
    exact ⟨K, fd, Gw.spLaw K, KX, hb, fun H a ns hl _ hS => ⟨a, ns, rfl, hS, fun _ => rfl⟩, hF⟩
