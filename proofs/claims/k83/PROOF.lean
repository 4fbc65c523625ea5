import PyProof.Rows.All
import Wide.All
import OpenK.AllK
import Wide.FinOn
import HandS.Head3
import HandS.Head0
import HandS.Head1
import HandS.Head2
import HandS.HeadEnd
import HandS.HeadHook1
import HandS.HeadHook2
import PyProof.EqAt
import PyProof.EqKinds
import PyProof.TupleCall
import HandS.ForMost
import HandS.Walk
import HandS.Zip
import HandS.Style
import HandS.Flow
import HandS.IsInst
import HandS.Property
import HandS.ClsMeth
import HandS.Gcd
import HandS.Conv
import HandS.Wide
import HandS.Defaults
import HandS.OwnEq
import KE.KMathGC
import PyProof.InstNe
import PyProof.ListMulAny
import KE.KOpsOwn
import HandS.ExcOwn
import HandS.TryOnly
import HandS.WordsExc
import HandS.MakeKw
import PySem.Challenge.RW_walkworths_k83_whole_tables_of_guessed_w
set_option Elab.async false
set_option linter.all false
set_option maxRecDepth 100000
set_option exponentiation.threshold 100000
set_option maxHeartbeats 4000000
/-! Triples over the hand layer: what is known of each slot (Sl), the frozen part F of the heap H, judgements by predicates on values that stand when the frozen part grows. -/
namespace Gw
open PySem PySem.Spec PyProof.Rows L2

/-! ### heaps -/
def Ex (H H' : Hp) : Prop := ∀ a o, H a = some o → H' a = some o
theorem Ex.refl (H : Hp) : Ex H H := fun _ _ h => h
theorem Ex.trans {H H1 H2 : Hp} (a : Ex H H1) (b : Ex H1 H2) : Ex H H2 := fun x o h => b x o (a x o h)
theorem Ex.new {H : Hp} {p : Addr} {o : HO} (h : H p = none) : Ex H (upd H p o) := fun a u e => by
  rw [upd_ne (ne_of_none e h)]
  exact e
theorem Ex.back {H H' : Hp} {p : Addr} (e : Ex H H') (h : H' p = none) : H p = none := by
  cases h1 : H p with
  | none => rfl
  | some o =>
    rw [e p o h1] at h
    cases h
theorem upd_none {H : Hp} {p a : Addr} {o : HO} (h : upd H p o a = none) : a ≠ p ∧ H a = none := by
  by_cases e : a = p
  · rw [e, upd_same] at h
    cases h
  · rw [upd_ne e] at h
    exact ⟨e, h⟩
/-- a predicate at all later frozen parts -/
def Up {α : Type} (R : α → Hp → Prop) (v : α) (F : Hp) : Prop := ∀ F', Ex F F' → R v F'
theorem Up.mono {α : Type} {R : α → Hp → Prop} {v : α} {F F' : Hp} (u : Up R v F) (e : Ex F F') : Up R v F' := fun F2 e2 => u F2 (e.trans e2)
theorem Up.here {α : Type} {R : α → Hp → Prop} {v : α} {F : Hp} (u : Up R v F) : R v F := u F (Ex.refl F)
theorem Up.imp {α : Type} {R R' : α → Hp → Prop} {v : α} {F : Hp} (u : Up R v F) (h : ∀ F, R v F → R' v F) : Up R' v F := fun F' e => h F' (u F' e)
/-- the law's list of two numbers -/
def PotAt (H : Hp) (a : Addr) : Prop := ∃ x y : Int, H a = some (.lst [.int x, .int y]) ∧ 0 ≤ x ∧ 0 ≤ y ∧ y < 2 ^ 40
structure Ok (pp : Option Addr) (F H : Hp) : Prop where
  s : Ex F H
  p : ∀ a, pp = some a → F a = none ∧ PotAt H a
/-- from F, H to F', H': objects are made, the law's list may turn, nothing else -/
structure Gr (pp : Option Addr) (F H F' H' : Hp) : Prop where
  f : Ex F F'
  s : Ex F' H'
  k : ∀ a o, H a = some o → pp ≠ some a → H' a = some o
  n : ∀ a o, F' a = some o → F a = some o ∨ H a = none
  p : ∀ a, pp = some a → F' a = none ∧ PotAt H' a
theorem Gr.ok {pp : Option Addr} {F H F' H' : Hp} (g : Gr pp F H F' H') : Ok pp F' H' := ⟨g.s, g.p⟩
theorem Ok.gr {pp : Option Addr} {F H : Hp} (o : Ok pp F H) : Gr pp F H F H := ⟨Ex.refl F, o.s, fun _ _ h _ => h, fun _ _ h => .inl h, o.p⟩
theorem Gr.back {pp : Option Addr} {F H F' H' : Hp} (g : Gr pp F H F' H') {a : Addr} (h : H' a = none) : H a = none := by
  cases e : H a with
  | none => rfl
  | some o =>
    by_cases hp : pp = some a
    · obtain ⟨_, x, y, e2, _⟩ := g.p a hp
      rw [e2] at h
      cases h
    · rw [g.k a o e hp] at h
      cases h
theorem Gr.trans {pp : Option Addr} {F H F1 H1 F2 H2 : Hp} (a : Gr pp F H F1 H1) (b : Gr pp F1 H1 F2 H2) : Gr pp F H F2 H2 where
  f := a.f.trans b.f
  s := b.s
  k := fun x o h hp => b.k x o (a.k x o h hp) hp
  n := fun x o h => by
    rcases b.n x o h with e | e
    · exact a.n x o e
    · exact .inr (a.back e)
  p := b.p
theorem Gr.new {pp : Option Addr} {F H : Hp} {p : Addr} {o : HO} (k : Ok pp F H) (h : H p = none) : Gr pp F H (upd F p o) (upd H p o) where
  f := Ex.new (k.s.back h)
  s := fun a u e => by
    by_cases q : a = p
    · rw [q, upd_same] at e ⊢
      exact e
    · rw [upd_ne q] at e ⊢
      exact k.s a u e
  k := fun a u e _ => by
    rw [upd_ne (ne_of_none e h)]
    exact e
  n := fun a u e => by
    by_cases q : a = p
    · rw [q]
      exact .inr h
    · rw [upd_ne q] at e
      exact .inl e
  p := fun a ha => by
    obtain ⟨h1, x, y, h2, h3⟩ := k.p a ha
    have q : a ≠ p := ne_of_none h2 h
    rw [upd_ne q]
    exact ⟨h1, x, y, by rw [upd_ne q]; exact h2, h3⟩
/-- a new object that is not frozen -/
theorem Gr.raw {pp : Option Addr} {F H : Hp} {p : Addr} {o : HO} (k : Ok pp F H) (h : H p = none) : Gr pp F H F (upd H p o) where
  f := Ex.refl F
  s := fun a u e => by
    rw [upd_ne (ne_of_none (k.s a u e) h)]
    exact k.s a u e
  k := fun a u e _ => by
    rw [upd_ne (ne_of_none e h)]
    exact e
  n := fun a u e => .inl e
  p := fun a ha => by
    obtain ⟨h1, x, y, h2, h3⟩ := k.p a ha
    have q : a ≠ p := ne_of_none h2 h
    exact ⟨h1, x, y, by rw [upd_ne q]; exact h2, h3⟩
theorem Ok.none {pp : Option Addr} {F H : Hp} (o : Ok pp F H) : Ok none F H := ⟨o.s, fun _ h => nomatch h⟩
theorem Gr.lift {pp : Option Addr} {F H F' H' : Hp} (o : Ok pp F H) (g : Gr none F H F' H') : Gr pp F H F' H' where
  f := g.f
  s := g.s
  k := fun a u e _ => g.k a u e (fun z => nomatch z)
  n := g.n
  p := fun a ha => by
    obtain ⟨h1, x, y, h2, h3⟩ := o.p a ha
    refine ⟨?_, x, y, g.k a _ h2 (fun z => nomatch z), h3⟩
    cases e : F' a with
    | none => rfl
    | some u =>
      rcases g.n a u e with q | q
      · rw [h1] at q
        cases q
      · rw [h2] at q
        cases q

/-! ### slots -/
inductive Sl where
  | un
  | fz (R : V → Hp → Prop)
  | mt (R : List V → Hp → Prop)
  | pot
structure En where
  F : Hp
  H : Hp
  pp : Option Addr
abbrev Bs (E : En) (F H : Hp) : Prop := Gr E.pp E.F E.H F H
structure Sat (E : En) (G : List Sl) (σ : L2.St) (F H : Hp) : Prop where
  len : σ.length = G.length
  bs : Bs E F H
  p0 : ∀ a, E.pp = some a → ∃ o, E.H a = some o
  fz : ∀ (i : Nat) (R : V → Hp → Prop), G[i]? = some (Sl.fz R) → ∃ v, σ[i]? = some (some v) ∧ Up R v F
  mt : ∀ (i : Nat) (R : List V → Hp → Prop), G[i]? = some (Sl.mt R) → ∃ p vs, σ[i]? = some (some (.ref p)) ∧ F p = none ∧ E.H p = none ∧ H p = some (.lst vs) ∧ Up R vs F
  ap : ∀ (i j : Nat) (R S : List V → Hp → Prop) (p : Addr), i ≠ j → G[i]? = some (Sl.mt R) → G[j]? = some (Sl.mt S) → σ[i]? = some (some (.ref p)) → σ[j]? = some (some (.ref p)) → False
  pt : ∀ (i : Nat), G[i]? = some Sl.pot → ∃ p, σ[i]? = some (some (.ref p)) ∧ E.pp = some p
section
variable {E : En} {G : List Sl} {σ : L2.St} {F H F' H' : Hp}
theorem Sat.ok (S : Sat E G σ F H) : Ok E.pp F H := S.bs.ok
theorem Sat.refl (S : Sat E G σ F H) : Gr E.pp F H F H := S.ok.gr
theorem Sat.npot (S : Sat E G σ F H) {p : Addr} (h : E.H p = none) : E.pp ≠ some p := fun e => by
  obtain ⟨o, q⟩ := S.p0 p e
  rw [q] at h
  cases h
theorem Sat.gr (S : Sat E G σ F H) (g : Gr E.pp F H F' H') : Sat E G σ F' H' where
  len := S.len
  bs := S.bs.trans g
  p0 := S.p0
  fz := fun i R h => by
    obtain ⟨v, e, u⟩ := S.fz i R h
    exact ⟨v, e, u.mono g.f⟩
  mt := fun i R h => by
    obtain ⟨p, vs, e, h1, h2, h3, h4⟩ := S.mt i R h
    refine ⟨p, vs, e, ?_, h2, g.k p _ h3 (S.npot h2), h4.mono g.f⟩
    cases q : F' p with
    | none => rfl
    | some o =>
      rcases g.n p o q with z | z
      · rw [h1] at z
        cases z
      · rw [h3] at z
        cases z
  ap := S.ap
  pt := S.pt
theorem Sat.set_fz (S : Sat E G σ F H) {i : Nat} {R : V → Hp → Prop} {v : V} (u : Up R v F) : Sat E (G.set i (.fz R)) (σ.set i (some v)) F H where
  len := by rw [List.length_set, List.length_set]; exact S.len
  bs := S.bs
  p0 := S.p0
  fz := fun j R' h => by
    by_cases e : j = i
    · subst e
      have hl : j < G.length := by
        have := (List.getElem?_eq_some_iff.mp h).1
        simpa using this
      rw [List.getElem?_set_self hl] at h
      cases h
      exact ⟨v, List.getElem?_set_self (by rw [S.len]; exact hl), u⟩
    · rw [List.getElem?_set_ne (Ne.symm e)] at h ⊢
      exact S.fz j R' h
  mt := fun j R' h => by
    by_cases e : j = i
    · subst e
      have hl : j < G.length := by
        have := (List.getElem?_eq_some_iff.mp h).1
        simpa using this
      rw [List.getElem?_set_self hl] at h
      cases h
    · rw [List.getElem?_set_ne (Ne.symm e)] at h ⊢
      exact S.mt j R' h
  ap := fun j k R1 R2 p ne h1 h2 e1 e2 => by
    have n1 : j ≠ i := fun e => by
      subst e
      have hl : j < G.length := by
        have := (List.getElem?_eq_some_iff.mp h1).1
        simpa using this
      rw [List.getElem?_set_self hl] at h1
      cases h1
    have n2 : k ≠ i := fun e => by
      subst e
      have hl : k < G.length := by
        have := (List.getElem?_eq_some_iff.mp h2).1
        simpa using this
      rw [List.getElem?_set_self hl] at h2
      cases h2
    rw [List.getElem?_set_ne (Ne.symm n1)] at h1 e1
    rw [List.getElem?_set_ne (Ne.symm n2)] at h2 e2
    exact S.ap j k R1 R2 p ne h1 h2 e1 e2
  pt := fun j h => by
    by_cases e : j = i
    · subst e
      have hl : j < G.length := by
        have := (List.getElem?_eq_some_iff.mp h).1
        simpa using this
      rw [List.getElem?_set_self hl] at h
      cases h
    · rw [List.getElem?_set_ne (Ne.symm e)] at h ⊢
      exact S.pt j h
theorem Sat.set_mt (S : Sat E G σ F H) {i : Nat} {R : List V → Hp → Prop} {p : Addr} {vs : List V} (hF : F p = none) (hE : E.H p = none) (hH : H p = some (.lst vs)) (u : Up R vs F)
    (ha : ∀ (j : Nat) (S : List V → Hp → Prop), j ≠ i → G[j]? = some (Sl.mt S) → σ[j]? = some (some (.ref p)) → False) : Sat E (G.set i (.mt R)) (σ.set i (some (.ref p))) F H where
  len := by rw [List.length_set, List.length_set]; exact S.len
  bs := S.bs
  p0 := S.p0
  fz := fun j R' h => by
    by_cases e : j = i
    · subst e
      have hl : j < G.length := by
        have := (List.getElem?_eq_some_iff.mp h).1
        simpa using this
      rw [List.getElem?_set_self hl] at h
      cases h
    · rw [List.getElem?_set_ne (Ne.symm e)] at h ⊢
      exact S.fz j R' h
  mt := fun j R' h => by
    by_cases e : j = i
    · subst e
      have hl : j < G.length := by
        have := (List.getElem?_eq_some_iff.mp h).1
        simpa using this
      rw [List.getElem?_set_self hl] at h
      cases h
      exact ⟨p, vs, List.getElem?_set_self (by rw [S.len]; exact hl), hF, hE, hH, u⟩
    · rw [List.getElem?_set_ne (Ne.symm e)] at h ⊢
      exact S.mt j R' h
  ap := fun j k R1 R2 q ne h1 h2 e1 e2 => by
    have one : ∀ (j k : Nat) (R2 : List V → Hp → Prop), j ≠ k → (G.set i (.mt R))[k]? = some (.mt R2) → (σ.set i (some (.ref p)))[j]? = some (some (.ref q)) → (σ.set i (some (.ref p)))[k]? = some (some (.ref q)) → j = i → False := fun j k R2 ne h2 e1 e2 e => by
      subst e
      have hl : j < σ.length := by
        have := (List.getElem?_eq_some_iff.mp e1).1
        simpa using this
      rw [List.getElem?_set_self hl] at e1
      cases e1
      rw [List.getElem?_set_ne ne] at h2 e2
      exact ha k R2 (Ne.symm ne) h2 e2
    by_cases n1 : j = i
    · exact one j k R2 ne h2 e1 e2 n1
    · by_cases n2 : k = i
      · exact one k j R1 (Ne.symm ne) h1 e2 e1 n2
      · rw [List.getElem?_set_ne (Ne.symm n1)] at h1 e1
        rw [List.getElem?_set_ne (Ne.symm n2)] at h2 e2
        exact S.ap j k R1 R2 q ne h1 h2 e1 e2
  pt := fun j h => by
    by_cases e : j = i
    · subst e
      have hl : j < G.length := by
        have := (List.getElem?_eq_some_iff.mp h).1
        simpa using this
      rw [List.getElem?_set_self hl] at h
      cases h
    · rw [List.getElem?_set_ne (Ne.symm e)] at h ⊢
      exact S.pt j h
/-- the list at a slot turns -/
theorem Sat.turn (S : Sat E G σ F H) {i : Nat} {R R' : List V → Hp → Prop} {p : Addr} {vs : List V} (hG : G[i]? = some (.mt R)) (hs : σ[i]? = some (some (.ref p))) (u : Up R' vs F) :
    Sat E (G.set i (.mt R')) σ F (upd H p (.lst vs)) := by
  obtain ⟨p', vs0, e, h1, h2, h3, h4⟩ := S.mt i R hG
  rw [hs] at e
  cases e
  have hb : Bs E F (upd H p (.lst vs)) := {
    f := S.bs.f
    s := fun a o q => by
      have ne : a ≠ p := fun z => by rw [z, h1] at q; cases q
      rw [upd_ne ne]
      exact S.bs.s a o q
    k := fun a o q hp => by
      have ne : a ≠ p := fun z => by rw [z, h2] at q; cases q
      rw [upd_ne ne]
      exact S.bs.k a o q hp
    n := S.bs.n
    p := fun a ha => by
      obtain ⟨q1, x, y, q2, q3⟩ := S.bs.p a ha
      have ne : a ≠ p := fun z => S.npot h2 (by rw [← z]; exact ha)
      exact ⟨q1, x, y, by rw [upd_ne ne]; exact q2, q3⟩ }
  have hl : i < G.length := (List.getElem?_eq_some_iff.mp hG).1
  refine ⟨by rw [List.length_set]; exact S.len, hb, S.p0, fun j R1 h => ?_, fun j R1 h => ?_, fun j k R1 R2 q ne g1 g2 e1 e2 => ?_, fun j h => ?_⟩
  · by_cases e : j = i
    · subst e
      rw [List.getElem?_set_self hl] at h
      cases h
    · rw [List.getElem?_set_ne (Ne.symm e)] at h
      exact S.fz j R1 h
  · by_cases e : j = i
    · subst e
      rw [List.getElem?_set_self hl] at h
      cases h
      exact ⟨p, vs, hs, h1, h2, upd_same, u⟩
    · rw [List.getElem?_set_ne (Ne.symm e)] at h
      obtain ⟨q, ws, g1, g2, g3, g4, g5⟩ := S.mt j R1 h
      have ne : q ≠ p := fun z => by
        subst z
        exact S.ap j i R1 R q e h hG g1 hs
      exact ⟨q, ws, g1, g2, g3, by rw [upd_ne ne]; exact g4, g5⟩
  · have get : ∀ (j : Nat) (R1 : List V → Hp → Prop), (G.set i (.mt R'))[j]? = some (.mt R1) → ∃ S1, G[j]? = some (.mt S1) := fun j R1 g => by
      by_cases e : j = i
      · subst e
        exact ⟨R, hG⟩
      · rw [List.getElem?_set_ne (Ne.symm e)] at g
        exact ⟨R1, g⟩
    obtain ⟨S1, g1'⟩ := get j R1 g1
    obtain ⟨S2, g2'⟩ := get k R2 g2
    exact S.ap j k S1 S2 q ne g1' g2' e1 e2
  · by_cases e : j = i
    · subst e
      rw [List.getElem?_set_self hl] at h
      cases h
    · rw [List.getElem?_set_ne (Ne.symm e)] at h
      exact S.pt j h
/-- a list as a value: at an address of the frozen part -/
def LstOf (R : List V → Hp → Prop) (v : V) (F : Hp) : Prop := ∃ a vs, v = .ref a ∧ F a = some (.lst vs) ∧ Up R vs F
def TupOf (R : List V → Hp → Prop) (v : V) (F : Hp) : Prop := ∃ a vs, v = .ref a ∧ F a = some (.tup vs) ∧ Up R vs F
/-- the list at a slot freezes -/
theorem Sat.freeze (S : Sat E G σ F H) {i : Nat} {R : List V → Hp → Prop} (hG : G[i]? = some (.mt R)) :
    ∃ p vs, σ[i]? = some (some (.ref p)) ∧ F p = none ∧ E.H p = none ∧ H p = some (.lst vs) ∧ Up R vs F ∧ Sat E (G.set i (.fz (LstOf R))) σ (upd F p (.lst vs)) H := by
  obtain ⟨p, vs, e, h1, h2, h3, h4⟩ := S.mt i R hG
  have hx : Ex F (upd F p (.lst vs)) := Ex.new h1
  have hl : i < G.length := (List.getElem?_eq_some_iff.mp hG).1
  have hb : Bs E (upd F p (.lst vs)) H := {
    f := S.bs.f.trans hx
    s := fun a o q => by
      by_cases ne : a = p
      · subst ne
        rw [upd_same] at q
        cases q
        exact h3
      · rw [upd_ne ne] at q
        exact S.bs.s a o q
    k := S.bs.k
    n := fun a o q => by
      by_cases ne : a = p
      · rw [ne]
        exact .inr h2
      · rw [upd_ne ne] at q
        exact S.bs.n a o q
    p := fun a ha => by
      obtain ⟨q1, q2⟩ := S.bs.p a ha
      have ne : a ≠ p := fun z => S.npot h2 (by rw [← z]; exact ha)
      exact ⟨by rw [upd_ne ne]; exact q1, q2⟩ }
  refine ⟨p, vs, e, h1, h2, h3, h4, ⟨by rw [List.length_set]; exact S.len, hb, S.p0, fun j R1 h => ?_, fun j R1 h => ?_, fun j k R1 R2 q ne g1 g2 e1 e2 => ?_, fun j h => ?_⟩⟩
  · by_cases q : j = i
    · subst q
      rw [List.getElem?_set_self hl] at h
      cases h
      exact ⟨.ref p, e, fun F2 e2 => ⟨p, vs, rfl, e2 _ _ upd_same, (h4.mono hx).mono e2⟩⟩
    · rw [List.getElem?_set_ne (Ne.symm q)] at h
      obtain ⟨v, g1, g2⟩ := S.fz j R1 h
      exact ⟨v, g1, g2.mono hx⟩
  · by_cases q : j = i
    · subst q
      rw [List.getElem?_set_self hl] at h
      cases h
    · rw [List.getElem?_set_ne (Ne.symm q)] at h
      obtain ⟨q', ws, g1, g2, g3, g4, g5⟩ := S.mt j R1 h
      have ne : q' ≠ p := fun z => by
        subst z
        exact S.ap j i R1 R q' q h hG g1 e
      exact ⟨q', ws, g1, by rw [upd_ne ne]; exact g2, g3, g4, g5.mono hx⟩
  · have get : ∀ (j : Nat) (R1 : List V → Hp → Prop), (G.set i (.fz (LstOf R)))[j]? = some (.mt R1) → G[j]? = some (.mt R1) := fun j R1 g => by
      by_cases q : j = i
      · subst q
        rw [List.getElem?_set_self hl] at g
        cases g
      · rw [List.getElem?_set_ne (Ne.symm q)] at g
        exact g
    exact S.ap j k R1 R2 q ne (get j R1 g1) (get k R2 g2) e1 e2
  · by_cases q : j = i
    · subst q
      rw [List.getElem?_set_self hl] at h
      cases h
    · rw [List.getElem?_set_ne (Ne.symm q)] at h
      exact S.pt j h
/-- less is known -/
inductive Le : Sl → Sl → Prop where
  | un {s : Sl} : Le s .un
  | fz {R R' : V → Hp → Prop} (h : ∀ v F, R v F → R' v F) : Le (.fz R) (.fz R')
  | mt {R R' : List V → Hp → Prop} (h : ∀ v F, R v F → R' v F) : Le (.mt R) (.mt R')
  | pot : Le .pot .pot
theorem Le.rfl' : ∀ s : Sl, Le s s
  | .un => .un
  | .fz _ => .fz fun _ _ h => h
  | .mt _ => .mt fun _ _ h => h
  | .pot => .pot
theorem Sat.weak {G' : List Sl} (S : Sat E G σ F H) (hl : G'.length = G.length) (h : ∀ (i : Nat) (s' : Sl), G'[i]? = some s' → ∃ s, G[i]? = some s ∧ Le s s') : Sat E G' σ F H where
  len := by rw [hl]; exact S.len
  bs := S.bs
  p0 := S.p0
  fz := fun i R e => by
    obtain ⟨s, e1, l⟩ := h i _ e
    cases l with
    | fz k =>
      obtain ⟨v, g1, g2⟩ := S.fz i _ e1
      exact ⟨v, g1, g2.imp fun F q => k v F q⟩
  mt := fun i R e => by
    obtain ⟨s, e1, l⟩ := h i _ e
    cases l with
    | mt k =>
      obtain ⟨p, vs, g1, g2, g3, g4, g5⟩ := S.mt i _ e1
      exact ⟨p, vs, g1, g2, g3, g4, g5.imp fun F q => k vs F q⟩
  ap := fun i j R1 R2 p ne e1 e2 => by
    obtain ⟨s, q1, l1⟩ := h i _ e1
    obtain ⟨t, q2, l2⟩ := h j _ e2
    cases l1 with
    | mt k1 => cases l2 with
      | mt k2 => exact S.ap i j _ _ p ne q1 q2
  pt := fun i e => by
    obtain ⟨s, e1, l⟩ := h i _ e
    cases l with
    | pot => exact S.pt i e1
/-- less is known, slot by slot -/
theorem Sat.weakL {G' : List Sl} (S : Sat E G σ F H) (h : Paired Le G G') : Sat E G' σ F H := by
  have all : ∀ {A B : List Sl}, Paired Le A B → B.length = A.length ∧ ∀ (i : Nat) (s' : Sl), B[i]? = some s' → ∃ s, A[i]? = some s ∧ Le s s' := by
    intro A B h
    induction h with
    | nil => exact ⟨rfl, fun i s' e => by simp at e⟩
    | cons r t ih =>
      refine ⟨by simp [ih.1], fun i s' e => ?_⟩
      cases i with
      | zero =>
        simp at e
        subst e
        exact ⟨_, rfl, r⟩
      | succ i =>
        simp at e
        obtain ⟨s, e1, l⟩ := ih.2 i s' e
        exact ⟨s, by simpa using e1, l⟩
  exact S.weak (all h).1 (all h).2
/-- a slot forgotten -/
theorem Sat.drop (S : Sat E G σ F H) (i : Nat) (x : Option V) : Sat E (G.set i .un) (σ.set i x) F H where
  len := by rw [List.length_set, List.length_set]; exact S.len
  bs := S.bs
  p0 := S.p0
  fz := fun j R' h => by
    by_cases e : j = i
    · subst e
      have hl : j < G.length := by
        have := (List.getElem?_eq_some_iff.mp h).1
        simpa using this
      rw [List.getElem?_set_self hl] at h
      cases h
    · rw [List.getElem?_set_ne (Ne.symm e)] at h ⊢
      exact S.fz j R' h
  mt := fun j R' h => by
    by_cases e : j = i
    · subst e
      have hl : j < G.length := by
        have := (List.getElem?_eq_some_iff.mp h).1
        simpa using this
      rw [List.getElem?_set_self hl] at h
      cases h
    · rw [List.getElem?_set_ne (Ne.symm e)] at h ⊢
      exact S.mt j R' h
  ap := fun j k R1 R2 p ne h1 h2 e1 e2 => by
    have n1 : j ≠ i := fun e => by
      subst e
      have hl : j < G.length := by
        have := (List.getElem?_eq_some_iff.mp h1).1
        simpa using this
      rw [List.getElem?_set_self hl] at h1
      cases h1
    have n2 : k ≠ i := fun e => by
      subst e
      have hl : k < G.length := by
        have := (List.getElem?_eq_some_iff.mp h2).1
        simpa using this
      rw [List.getElem?_set_self hl] at h2
      cases h2
    rw [List.getElem?_set_ne (Ne.symm n1)] at h1 e1
    rw [List.getElem?_set_ne (Ne.symm n2)] at h2 e2
    exact S.ap j k R1 R2 p ne h1 h2 e1 e2
  pt := fun j h => by
    by_cases e : j = i
    · subst e
      have hl : j < G.length := by
        have := (List.getElem?_eq_some_iff.mp h).1
        simpa using this
      rw [List.getElem?_set_self hl] at h
      cases h
    · rw [List.getElem?_set_ne (Ne.symm e)] at h ⊢
      exact S.pt j h
def wipeG (G : List Sl) : List Nat → List Sl
  | [] => G
  | v :: vs => (wipeG G vs).set v .un
theorem Sat.wipe (S : Sat E G σ F H) : ∀ vs : List Nat, Sat E (wipeG G vs) (L2.wipe σ vs) F H
  | [] => S
  | v :: vs => (Sat.wipe S vs).drop v none
theorem wipe_set {σ : L2.St} {i : Nat} {x : Option V} : ∀ {vs : List Nat}, i ∈ vs → L2.wipe (σ.set i x) vs = L2.wipe σ vs
  | [], h => absurd h (by simp)
  | v :: vs, h => by
    unfold L2.wipe
    by_cases q : i ∈ vs
    · rw [wipe_set q]
    · have e : i = v := by
        rcases List.mem_cons.mp h with z | z
        · exact z
        · exact absurd z q
      subst e
      have all : ∀ {vs : List Nat}, i ∉ vs → L2.wipe (σ.set i x) vs = (L2.wipe σ vs).set i x := by
        intro vs
        induction vs with
        | nil => intro _; rfl
        | cons w ws ih =>
          intro hn
          have h1 : i ≠ w := fun z => hn (by simp [z])
          have h2 : i ∉ ws := fun z => hn (by simp [z])
          unfold L2.wipe
          rw [ih h2, List.set_comm _ _ h1]
      rw [all q, List.set_set]
theorem wipe_idem {σ : L2.St} : ∀ {vs ws : List Nat}, (∀ v ∈ vs, v ∈ ws) → L2.wipe (L2.wipe σ vs) ws = L2.wipe σ ws
  | [], _, _ => rfl
  | v :: vs, ws, h => by
    show L2.wipe ((L2.wipe σ vs).set v none) ws = _
    rw [wipe_set (h v (by simp)), wipe_idem fun u hu => h u (by simp [hu])]
end
end Gw
set_option maxHeartbeats 4000000
namespace Gw
open PySem PySem.Spec PyProof.Rows L2

/-! ### readings -/
def tE (E : En) (G : List Sl) (R : V → Hp → Prop) : TE := fun σ H Q => ∃ F, Sat E G σ F H ∧ ∀ v F' H', Gr E.pp F H F' H' → Up R v F' → Q v H'
def tT (E : En) (G : List Sl) (b : Bool) : TT := fun σ H Q => ∃ F, Sat E G σ F H ∧ ∀ F' H', Gr E.pp F H F' H' → Q b H'
def Args (Rs : List (V → Hp → Prop)) (vs : List V) (F : Hp) : Prop := Paired (fun R v => Up R v F) Rs vs
def tA (E : En) (G : List Sl) (Rs : List (V → Hp → Prop)) : TA := fun σ H Q => ∃ F, Sat E G σ F H ∧ ∀ vs F' H', Gr E.pp F H F' H' → Args Rs vs F' → Q vs H'
/-- a new list, not frozen -/
def tM (E : En) (G : List Sl) (R : List V → Hp → Prop) : TE := fun σ H Q => ∃ F, Sat E G σ F H ∧ ∀ p vs F' H', Gr E.pp F H F' H' → H p = none → F' p = none → H' p = some (.lst vs) → Up R vs F' → Q (.ref p) H'
def tS (E : En) (G : List Sl) (Rt : V → Hp → Hp → Prop) (N : List Sl → Prop) : TS := fun D σ H => ∃ F, Sat E G σ F H ∧ (∀ G' σ' F' H', N G' → Sat E G' σ' F' H' → Ex F F' → D.nx σ' H') ∧ (∀ v F' H', Bs E F' H' → Rt v F' H' → D.rt v H')
def tO (E : En) (G : List Sl) (o : Option Int) : TO := fun σ H Q => ∃ F, Sat E G σ F H ∧ ∀ F' H', Gr E.pp F H F' H' → Q o H'
theorem Args.mono {Rs : List (V → Hp → Prop)} {vs : List V} {F F' : Hp} (a : Args Rs vs F) (e : Ex F F') : Args Rs vs F' := Paired.mapP a fun _ _ u => u.mono e
theorem Args.up {Rs : List (V → Hp → Prop)} {vs : List V} {F : Hp} (a : Args Rs vs F) : Up (Args Rs) vs F := fun _ e => a.mono e
theorem Args.len {Rs : List (V → Hp → Prop)} {vs : List V} {F : Hp} (a : Args Rs vs F) : Rs.length = vs.length := Paired.length a
theorem Args.get {Rs : List (V → Hp → Prop)} {vs : List V} {F : Hp} (a : Args Rs vs F) : ∀ {i : Nat} {R : V → Hp → Prop}, Rs[i]? = some R → ∃ v, vs[i]? = some v ∧ Up R v F := by
  have h : ∀ {Rs : List (V → Hp → Prop)} {vs : List V}, Paired (fun R v => Up R v F) Rs vs → ∀ {i : Nat} {R : V → Hp → Prop}, Rs[i]? = some R → ∃ v, vs[i]? = some v ∧ Up R v F := by
    intro Rs vs p
    induction p with
    | nil => intro i R e; simp at e
    | cons r t ih =>
      intro i R e
      cases i with
      | zero =>
        simp at e
        subst e
        exact ⟨_, rfl, r⟩
      | succ i =>
        simp at e
        obtain ⟨v, e1, u⟩ := ih e
        exact ⟨v, by simpa using e1, u⟩
  exact @h _ _ a

section
variable {X : Cx} {e : Expr} {st : Stmt}
theorem PE_imp {t t' : TE} (h : PE X e t) (i : ∀ σ H Q, t' σ H Q → t σ H Q) : PE X e t' := ⟨fun pins s σ H Q I hw => h.run pins s σ H Q I (i _ _ _ hw)⟩
theorem PT_imp {t t' : TT} (h : PT X e t) (i : ∀ σ H Q, t' σ H Q → t σ H Q) : PT X e t' := ⟨fun pins s σ H Q I hw => h.run pins s σ H Q I (i _ _ _ hw)⟩
theorem PW_imp {t t' : TT} (h : PW X e t) (i : ∀ σ H Q, t' σ H Q → t σ H Q) : PW X e t' := ⟨fun wh pins s σ H Q I hw => h.run wh pins s σ H Q I (i _ _ _ hw)⟩
theorem PA_imp {es : List Expr} {t t' : TA} (h : PA X es t) (i : ∀ σ H Q, t' σ H Q → t σ H Q) : PA X es t' := ⟨fun pos pins s σ H Q I hw => h.run pos pins s σ H Q I (i _ _ _ hw)⟩
theorem PK_imp {es : List Keyword} {t t' : TA} (h : PK X es t) (i : ∀ σ H Q, t' σ H Q → t σ H Q) : PK X es t' := ⟨fun pos pins s σ H Q I hw => h.run pos pins s σ H Q I (i _ _ _ hw)⟩
theorem PS_imp {t t' : TS} (h : PS X st t) (i : ∀ D σ H, t' D σ H → t D σ H) : PS X st t' := ⟨fun pins s σ H D I hw => h.run pins s σ H D I (i _ _ _ hw)⟩
theorem PSs_imp {st : List Stmt} {t t' : TS} (h : PSs X st t) (i : ∀ D σ H, t' D σ H → t D σ H) : PSs X st t' := ⟨fun pins s σ H D I hw => h.run pins s σ H D I (i _ _ _ hw)⟩
theorem PI_imp {tg : Expr} {t t' : TI} (h : PI X tg e t) (i : ∀ σ H R, t' σ H R → t σ H R) : PI X tg e t' := ⟨fun pins s σ H R I hw => h.run pins s σ H R I (i _ _ _ hw)⟩
theorem PG_imp {t t' : TG} (h : PG X e t) (i : ∀ v σ H Q, t' v σ H Q → t v σ H Q) : PG X e t' := ⟨fun pins s σ H v u Q I r hw => h.run pins s σ H v u Q I r (i _ _ _ _ hw)⟩
theorem PO_imp {o : Option Expr} {t t' : TO} (h : PO X o t) (i : ∀ σ H Q, t' σ H Q → t σ H Q) : PO X o t' := ⟨fun pins s σ H Q I hw => h.run pins s σ H Q I (i _ _ _ hw)⟩
/-- for every kind of ending that can be: a family of readings -/
theorem PSs_any {ι : Type} {st : List Stmt} {t : ι → TS} (h : ∀ i, PSs X st (t i)) : PSs X st (fun D σ H => ∃ i, t i D σ H) := ⟨fun pins s σ H D I ⟨i, hw⟩ => (h i).run pins s σ H D I hw⟩
theorem PE_any {ι : Type} {t : ι → TE} (h : ∀ i, PE X e (t i)) : PE X e (fun σ H Q => ∃ i, t i σ H Q) := ⟨fun pins s σ H Q I ⟨i, hw⟩ => (h i).run pins s σ H Q I hw⟩
theorem PT_any {ι : Type} {t : ι → TT} (h : ∀ i, PT X e (t i)) : PT X e (fun σ H Q => ∃ i, t i σ H Q) := ⟨fun pins s σ H Q I ⟨i, hw⟩ => (h i).run pins s σ H Q I hw⟩
theorem PTs_any {ι : Type} {es : List Expr} {t : ι → TT} (h : ∀ i, PTs X es (t i)) : PTs X es (fun σ H Q => ∃ i, t i σ H Q) := ⟨fun pins s σ H Q I ⟨i, hw⟩ => (h i).run pins s σ H Q I hw⟩
end

section
variable {X : Cx} {E : En} {G : List Sl} {e a b c : Expr} {R R' Ra Rb Rz : V → Hp → Prop} {pos : Pos}
theorem je_conv (p : PE X e (tE E G R)) (h : ∀ v F, R v F → R' v F) : PE X e (tE E G R') := PE_imp p fun σ H Q ⟨F, S, k⟩ => ⟨F, S, fun v F' H' g u => k v F' H' g (u.imp fun F q => h v F q)⟩
theorem je_var {i : Nat} (p : PE X e (tVar i)) (h : G[i]? = some (.fz R)) : PE X e (tE E G R) := PE_imp p fun σ H Q ⟨F, S, k⟩ => by
  obtain ⟨v, q, u⟩ := S.fz i R h
  exact ⟨v, q, k v F H S.refl u⟩
theorem je_c {v : V} (p : PE X e (tC v)) (h : ∀ F, R v F) : PE X e (tE E G R) := PE_imp p fun σ H Q ⟨F, S, k⟩ => k v F H S.refl fun F' _ => h F'
/-- two-place operations on values -/
def ROp (pp : Option Addr) (r : R2) (Ra Rb Rz : V → Hp → Prop) : Prop := ∀ x y F H (Q : VK), Ok pp F H → Up Ra x F → Up Rb y F → (∀ z F' H', Gr pp F H F' H' → Up Rz z F' → Q z H') → r x y H Q
theorem je_op {r : R2} (p : PE X e (tOp r (tE E G Ra) (tE E G Rb))) (h : ROp E.pp r Ra Rb Rz) : PE X e (tE E G Rz) := PE_imp p fun σ H Q ⟨F, S, k⟩ =>
  ⟨F, S, fun x F1 H1 g1 u1 => ⟨F1, S.gr g1, fun y F2 H2 g2 u2 => h x y F2 H2 Q g2.ok (u1.mono g2.f) u2 fun z F3 H3 g3 u3 => k z F3 H3 ((g1.trans g2).trans g3) u3⟩⟩
def RUn (pp : Option Addr) (r : V → Hp → VK → Prop) (Ra Rz : V → Hp → Prop) : Prop := ∀ x F H (Q : VK), Ok pp F H → Up Ra x F → (∀ z F' H', Gr pp F H F' H' → Up Rz z F' → Q z H') → r x H Q
theorem je_un {r : V → Hp → VK → Prop} (p : PE X e (fun σ H Q => tE E G Ra σ H fun x H1 => r x H1 Q)) (h : RUn E.pp r Ra Rz) : PE X e (tE E G Rz) := PE_imp p fun σ H Q ⟨F, S, k⟩ =>
  ⟨F, S, fun x F1 H1 g1 u1 => h x F1 H1 Q g1.ok u1 fun z F3 H3 g3 u3 => k z F3 H3 (g1.trans g3) u3⟩
/-- calls -/
def RC (pp : Option Addr) (r : List V → Hp → VK → Prop) (Rs : List (V → Hp → Prop)) (Rz : V → Hp → Prop) : Prop := ∀ vs F H (Q : VK), Ok pp F H → Args Rs vs F → (∀ z F' H', Gr pp F H F' H' → Up Rz z F' → Q z H') → r vs H Q
def RCM (pp : Option Addr) (r : List V → Hp → VK → Prop) (Rs : List (V → Hp → Prop)) (Rz : List V → Hp → Prop) : Prop := ∀ vs F H (Q : VK), Ok pp F H → Args Rs vs F → (∀ p ws F' H', Gr pp F H F' H' → H p = none → F' p = none → H' p = some (.lst ws) → Up Rz ws F' → Q (.ref p) H') → r vs H Q
theorem je_cb {r : List V → Hp → VK → Prop} {Rs : List (V → Hp → Prop)} (p : PE X e (tCB r (tA E G Rs))) (h : RC E.pp r Rs Rz) : PE X e (tE E G Rz) := PE_imp p fun σ H Q ⟨F, S, k⟩ =>
  ⟨F, S, fun vs F1 H1 g1 a => h vs F1 H1 Q g1.ok a fun z F3 H3 g3 u3 => k z F3 H3 (g1.trans g3) u3⟩
theorem jm_cb {r : List V → Hp → VK → Prop} {Rs : List (V → Hp → Prop)} {Rm : List V → Hp → Prop} (p : PE X e (tCB r (tA E G Rs))) (h : RCM E.pp r Rs Rm) : PE X e (tM E G Rm) := PE_imp p fun σ H Q ⟨F, S, k⟩ =>
  ⟨F, S, fun vs F1 H1 g1 a => h vs F1 H1 Q g1.ok a fun q ws F3 H3 g3 n1 n2 n3 u3 => k q ws F3 H3 (g1.trans g3) (g1.back n1) n2 n3 u3⟩
theorem ja_nil : PA X [] (tA E G []) := PA_imp pa_nil fun σ H Q ⟨F, S, k⟩ => k [] F H S.refl .nil
theorem ja_cons {es : List Expr} {Rs : List (V → Hp → Prop)} (h : PE X e (tE E G R)) (hr : PA X es (tA E G Rs)) (hs : starEach (e :: es) X.env = (false, eval e X.env) :: starEach es X.env := by rfl) : PA X (e :: es) (tA E G (R :: Rs)) :=
  PA_imp (pa_cons h hr hs) fun σ H Q ⟨F, S, k⟩ => ⟨F, S, fun x F1 H1 g1 u1 => ⟨F1, S.gr g1, fun vs F2 H2 g2 a => k (x :: vs) F2 H2 (g1.trans g2) (.cons (u1.mono g2.f) a)⟩⟩
theorem jk_nil : PK X [] (tA E G []) := PK_imp pk_nil fun σ H Q ⟨F, S, k⟩ => k [] F H S.refl .nil
theorem jk_cons {nm : Option Str} {kpos : Pos} {es : List Keyword} {Rs : List (V → Hp → Prop)} (h : PE X e (tE E G R)) (hr : PK X es (tA E G Rs)) : PK X (⟨nm, e, kpos⟩ :: es) (tA E G (R :: Rs)) :=
  PK_imp (pk_cons h hr) fun σ H Q ⟨F, S, k⟩ => ⟨F, S, fun x F1 H1 g1 u1 => ⟨F1, S.gr g1, fun vs F2 H2 g2 a => k (x :: vs) F2 H2 (g1.trans g2) (.cons (u1.mono g2.f) a)⟩⟩
theorem Args.app {Rs Ss : List (V → Hp → Prop)} {vs ws : List V} {F : Hp} (a : Args Rs vs F) (b : Args Ss ws F) : Args (Rs ++ Ss) (vs ++ ws) F := by
  have h : ∀ {Rs : List (V → Hp → Prop)} {vs : List V}, Paired (fun R v => Up R v F) Rs vs → Paired (fun R v => Up R v F) (Rs ++ Ss) (vs ++ ws) := by
    intro Rs vs p
    induction p with
    | nil => exact b
    | cons r t ih => exact .cons r ih
  exact @h _ _ a
/-- a call with keywords: the parameters in their order -/
theorem je_ck {sp : Sp} {gV : List V → List V → List V} {E' : XK} {Rs Ss Ts : List (V → Hp → Prop)} (p : PE X e (tCallK sp gV E' (tA E G Rs) (tA E G Ss)))
    (hg : ∀ vs ws F, Args Rs vs F → Args Ss ws F → Args Ts (gV vs ws) F) (h : RC E.pp (fun vs H Q => sp vs H Q E') Ts Rz) : PE X e (tE E G Rz) := PE_imp p fun σ H Q ⟨F, S, k⟩ =>
  ⟨F, S, fun vs F1 H1 g1 a1 => ⟨F1, S.gr g1, fun ws F2 H2 g2 a2 => h _ F2 H2 Q g2.ok (hg vs ws F2 (a1.mono g2.f) a2) fun z F3 H3 g3 u3 => k z F3 H3 ((g1.trans g2).trans g3) u3⟩⟩

/-! ### new lists -/
theorem Gr_frz {pp : Option Addr} {F H F' H' : Hp} {p : Addr} {o : HO} (k : Ok pp F H) (g : Gr pp F H F' H') (n1 : H p = none) (n2 : F' p = none) (n3 : H' p = some o) : Gr pp F H (upd F' p o) H' where
  f := g.f.trans (Ex.new n2)
  s := fun a u e => by
    by_cases q : a = p
    · subst q
      rw [upd_same] at e
      cases e
      exact n3
    · rw [upd_ne q] at e
      exact g.s a u e
  k := g.k
  n := fun a u e => by
    by_cases q : a = p
    · rw [q]
      exact .inr n1
    · rw [upd_ne q] at e
      exact g.n a u e
  p := fun a ha => by
    obtain ⟨q1, q2⟩ := g.p a ha
    obtain ⟨_, x, y, h2, _⟩ := k.p a ha
    have q : a ≠ p := ne_of_none h2 n1
    exact ⟨by rw [upd_ne q]; exact q1, q2⟩
/-- a new list frozen at once -/
theorem je_m {Rm : List V → Hp → Prop} (p : PE X e (tM E G Rm)) : PE X e (tE E G (LstOf Rm)) := PE_imp p fun σ H Q ⟨F, S, k⟩ =>
  ⟨F, S, fun p vs F' H' g n1 n2 n3 u => k (.ref p) (upd F' p (.lst vs)) H' (Gr_frz S.ok g n1 n2 n3) fun F2 e2 => ⟨p, vs, rfl, e2 _ _ upd_same, (u.mono (Ex.new n2)).mono e2⟩⟩
theorem jm_conv {Rm Rn : List V → Hp → Prop} (p : PE X e (tM E G Rm)) (h : ∀ v F, Rm v F → Rn v F) : PE X e (tM E G Rn) := PE_imp p fun σ H Q ⟨F, S, k⟩ =>
  ⟨F, S, fun p vs F' H' g n1 n2 n3 u => k p vs F' H' g n1 n2 n3 (u.imp fun F q => h vs F q)⟩
theorem jm_lst {Rs : List (V → Hp → Prop)} (p : PE X e (tLst (tA E G Rs))) (hl : Rs.length ≤ sizeLine := by first | decide | (simp only [List.length_cons, List.length_nil]; decide)) : PE X e (tM E G (Args Rs)) := PE_imp p fun σ H Q ⟨F, S, k⟩ =>
  ⟨F, S, fun vs F1 H1 g1 a => ⟨by rw [← a.len]; exact hl, fun p hp => k p vs F1 (upd H1 p (.lst vs)) (g1.trans (Gr.raw g1.ok hp)) (g1.back hp) (g1.s.back hp) upd_same a.up⟩⟩
theorem je_tup {Rs : List (V → Hp → Prop)} (p : PE X e (tTup (tA E G Rs))) (hl : Rs.length ≤ sizeLine := by first | decide | (simp only [List.length_cons, List.length_nil]; decide)) : PE X e (tE E G (TupOf (Args Rs))) := PE_imp p fun σ H Q ⟨F, S, k⟩ =>
  ⟨F, S, fun vs F1 H1 g1 a => ⟨by rw [← a.len]; exact hl, fun p hp => k (.ref p) (upd F1 p (.tup vs)) (upd H1 p (.tup vs)) (g1.trans (Gr.new g1.ok hp)) fun F2 e2 =>
    ⟨p, vs, rfl, e2 _ _ upd_same, (a.mono (Ex.new (g1.s.back hp))).mono e2 |>.up⟩⟩⟩
/-- an operation that makes a new list -/
def ROpM (pp : Option Addr) (r : R2) (Ra Rb : V → Hp → Prop) (Rz : List V → Hp → Prop) : Prop := ∀ x y F H (Q : VK), Ok pp F H → Up Ra x F → Up Rb y F → (∀ p ws F' H', Gr pp F H F' H' → H p = none → F' p = none → H' p = some (.lst ws) → Up Rz ws F' → Q (.ref p) H') → r x y H Q
theorem jm_op {r : R2} {Rm : List V → Hp → Prop} (p : PE X e (tOp r (tE E G Ra) (tE E G Rb))) (h : ROpM E.pp r Ra Rb Rm) : PE X e (tM E G Rm) := PE_imp p fun σ H Q ⟨F, S, k⟩ =>
  ⟨F, S, fun x F1 H1 g1 u1 => ⟨F1, S.gr g1, fun y F2 H2 g2 u2 => h x y F2 H2 Q g2.ok (u1.mono g2.f) u2 fun q ws F3 H3 g3 n1 n2 n3 u3 => k q ws F3 H3 ((g1.trans g2).trans g3) ((g1.trans g2).back n1) n2 n3 u3⟩⟩

/-! ### tests -/
def IsB (b : Bool) (v : V) (_ : Hp) : Prop := v = .bl b
def IsI (i : Int) (v : V) (_ : Hp) : Prop := v = .int i
def IsN (v : V) (_ : Hp) : Prop := v = .non
def IsS (s : Str) (v : V) (_ : Hp) : Prop := v = .str s
def IsTy (n : String) (v : V) (_ : Hp) : Prop := v = .ty n
variable {b1 b2 : Bool}
theorem jt_val (p : PT X e (tB (tE E G (IsB b1)))) : PT X e (tT E G b1) := PT_imp p fun σ H Q ⟨F, S, k⟩ => ⟨F, S, fun v F' H' g u => ⟨b1, u.here, k F' H' g⟩⟩
theorem jt_cmp {r : R2} (p : PT X e (tTest (tOp r (tE E G Ra) (tE E G Rb)))) (h : ROp E.pp r Ra Rb (IsB b1)) : PT X e (tT E G b1) := PT_imp p fun σ H Q ⟨F, S, k⟩ =>
  ⟨F, S, fun x F1 H1 g1 u1 => ⟨F1, S.gr g1, fun y F2 H2 g2 u2 => h x y F2 H2 _ g2.ok (u1.mono g2.f) u2 fun z F3 H3 g3 u3 => ⟨b1, u3.here, k F3 H3 ((g1.trans g2).trans g3)⟩⟩⟩
theorem jt_eq (p : PT X e (tT E G b1)) (h : b1 = b2) : PT X e (tT E G b2) := by rw [← h]; exact p
theorem je_eq (p : PE X e (tE E G R)) (h : R = R') : PE X e (tE E G R') := by rw [← h]; exact p
theorem jt_not (p : PT X a (tT E G b1)) : PT X (.UnaryOp .Not a pos) (tT E G (!b1)) := PT_imp (pt_not p) fun σ H Q ⟨F, S, k⟩ => ⟨F, S, fun F' H' g => k F' H' g⟩
theorem PW_when {B : Prop} {t : TT} (h : B → PW X e t) : PW X e (fun σ H Q => B ∧ t σ H Q) := ⟨fun wh pins s σ H Q I hw => (h hw.1).run wh pins s σ H Q I hw.2⟩
theorem PE_when {B : Prop} {t : TE} (h : B → PE X e t) : PE X e (fun σ H Q => B ∧ t σ H Q) := ⟨fun pins s σ H Q I hw => (h hw.1).run pins s σ H Q I hw.2⟩
theorem PSs_when {B : Prop} {st : List Stmt} {t : TS} (h : B → PSs X st t) : PSs X st (fun D σ H => B ∧ t D σ H) := ⟨fun pins s σ H D I hw => (h hw.1).run pins s σ H D I hw.2⟩
theorem jw_and1 (p : PT X a (tT E G b1)) : PW X (.BoolOp .And [a] pos) (tT E G b1) := pw_and1 p
theorem jw_or1 (p : PT X a (tT E G b1)) : PW X (.BoolOp .Or [a] pos) (tT E G b1) := pw_or1 p
theorem jw_and {rest : List Expr} (p : PT X a (tT E G b1)) (q : b1 = true → PW X (.BoolOp .And (b :: rest) pos) (tT E G b2)) : PW X (.BoolOp .And (a :: b :: rest) pos) (tT E G (b1 && b2)) :=
  PW_imp (pw_and p (PW_when q)) fun σ H Q ⟨F, S, k⟩ => ⟨F, S, fun F1 H1 g1 => by
    cases b1 with
    | true =>
      show (true = true ∧ tT E G b2 σ H1 Q)
      exact ⟨rfl, F1, S.gr g1, fun F2 H2 g2 => k F2 H2 (g1.trans g2)⟩
    | false =>
      show Q false H1
      exact k F1 H1 g1⟩
theorem jw_or {rest : List Expr} (p : PT X a (tT E G b1)) (q : b1 = false → PW X (.BoolOp .Or (b :: rest) pos) (tT E G b2)) : PW X (.BoolOp .Or (a :: b :: rest) pos) (tT E G (b1 || b2)) :=
  PW_imp (pw_or p (PW_when q)) fun σ H Q ⟨F, S, k⟩ => ⟨F, S, fun F1 H1 g1 => by
    cases b1 with
    | true =>
      show Q true H1
      exact k F1 H1 g1
    | false =>
      show (false = false ∧ tT E G b2 σ H1 Q)
      exact ⟨rfl, F1, S.gr g1, fun F2 H2 g2 => k F2 H2 (g1.trans g2)⟩⟩
theorem je_and {rest : List Expr} (p : PE X a (tE E G (IsB b1))) (q : b1 = true → PE X (.BoolOp .And (b :: rest) pos) (tE E G (IsB b2))) : PE X (.BoolOp .And (a :: b :: rest) pos) (tE E G (IsB (b1 && b2))) :=
  PE_imp (pe_and p (PE_when q)) fun σ H Q ⟨F, S, k⟩ => ⟨F, S, fun v F1 H1 g1 u1 => ⟨b1, u1.here, by
    cases b1 with
    | true =>
      show (true = true ∧ tE E G (IsB b2) σ H1 Q)
      exact ⟨rfl, F1, S.gr g1, fun v F2 H2 g2 u2 => k v F2 H2 (g1.trans g2) u2⟩
    | false =>
      show Q (.bl false) H1
      exact k (.bl false) F1 H1 g1 fun _ _ => rfl⟩⟩
theorem je_or {rest : List Expr} (p : PE X a (tE E G (IsB b1))) (q : b1 = false → PE X (.BoolOp .Or (b :: rest) pos) (tE E G (IsB b2))) : PE X (.BoolOp .Or (a :: b :: rest) pos) (tE E G (IsB (b1 || b2))) :=
  PE_imp (pe_or p (PE_when q)) fun σ H Q ⟨F, S, k⟩ => ⟨F, S, fun v F1 H1 g1 u1 => ⟨b1, u1.here, by
    cases b1 with
    | true =>
      show Q (.bl true) H1
      exact k (.bl true) F1 H1 g1 fun _ _ => rfl
    | false =>
      show (false = false ∧ tE E G (IsB b2) σ H1 Q)
      exact ⟨rfl, F1, S.gr g1, fun v F2 H2 g2 u2 => k v F2 H2 (g1.trans g2) u2⟩⟩⟩
theorem je_not (p : PE X a (tE E G (IsB b1))) : PE X (.UnaryOp .Not a pos) (tE E G (IsB (!b1))) :=
  PE_imp (pe_not p) fun σ H Q ⟨F, S, k⟩ => ⟨F, S, fun v F1 H1 g1 u1 => ⟨b1, u1.here, k _ F1 H1 g1 fun _ _ => rfl⟩⟩
theorem je_if (hc : PT X c (tT E G b1)) (ha : b1 = true → PE X a (tE E G R)) (hb : b1 = false → PE X b (tE E G R)) : PE X (.IfExp c a b pos) (tE E G R) :=
  PE_imp (pe_ifExp hc (PE_when ha) (PE_when hb)) fun σ H Q ⟨F, S, k⟩ => ⟨F, S, fun F1 H1 g1 => by
    cases b1 with
    | true =>
      show (true = true ∧ tE E G R σ H1 Q)
      exact ⟨rfl, F1, S.gr g1, fun v F2 H2 g2 u2 => k v F2 H2 (g1.trans g2) u2⟩
    | false =>
      show (false = false ∧ tE E G R σ H1 Q)
      exact ⟨rfl, F1, S.gr g1, fun v F2 H2 g2 u2 => k v F2 H2 (g1.trans g2) u2⟩⟩
/-- a op b op c on plain values -/
theorem je_chain {r r' : R2} {Rc : V → Hp → Prop} (p : PE X e (tChain r r' (tE E G Ra) (tE E G Rb) (tE E G Rc))) (h1 : ROp E.pp r Ra Rb (IsB b1)) (h2 : ROp E.pp r' Rb Rc (IsB b2)) : PE X e (tE E G (IsB (b1 && b2))) :=
  PE_imp p fun σ H Q ⟨F, S, k⟩ => ⟨F, S, fun x F1 H1 g1 u1 => ⟨F1, S.gr g1, fun y F2 H2 g2 u2 => h1 x y F2 H2 _ g2.ok (u1.mono g2.f) u2 fun z F3 H3 g3 u3 => ⟨b1, u3.here, by
    cases b1 with
    | true =>
      show tE E G Rc σ H3 fun w' H4 => r' y w' H4 Q
      exact ⟨F3, S.gr ((g1.trans g2).trans g3), fun w F4 H4 g4 u4 => h2 y w F4 H4 Q g4.ok ((u2.mono g3.f).mono g4.f) u4 fun z' F5 H5 g5 u5 => k z' F5 H5 ((((g1.trans g2).trans g3).trans g4).trans g5) u5⟩
    | false =>
      show Q (.bl false) H3
      exact k (.bl false) F3 H3 ((g1.trans g2).trans g3) fun _ _ => rfl⟩⟩⟩
theorem jt_chain {r r' : R2} {Rc : V → Hp → Prop} (p : PT X e (tTest (tChain r r' (tE E G Ra) (tE E G Rb) (tE E G Rc)))) (h1 : ROp E.pp r Ra Rb (IsB b1)) (h2 : ROp E.pp r' Rb Rc (IsB b2)) : PT X e (tT E G (b1 && b2)) :=
  PT_imp p fun σ H Q ⟨F, S, k⟩ => ⟨F, S, fun x F1 H1 g1 u1 => ⟨F1, S.gr g1, fun y F2 H2 g2 u2 => h1 x y F2 H2 _ g2.ok (u1.mono g2.f) u2 fun z F3 H3 g3 u3 => ⟨b1, u3.here, by
    cases b1 with
    | true =>
      show tE E G Rc σ H3 _
      exact ⟨F3, S.gr ((g1.trans g2).trans g3), fun w F4 H4 g4 u4 => h2 y w F4 H4 _ g4.ok ((u2.mono g3.f).mono g4.f) u4 fun z' F5 H5 g5 u5 => ⟨b2, u5.here, k F5 H5 ((((g1.trans g2).trans g3).trans g4).trans g5)⟩⟩
    | false =>
      exact ⟨false, rfl, k F3 H3 ((g1.trans g2).trans g3)⟩⟩⟩⟩
/-- reading a list that may still turn, where the answer is plain -/
def Pl (R : V → Hp → Prop) : Prop := ∀ v F F', R v F → R v F'
theorem hide_gr {pp : Option Addr} {F H F' H' : Hp} {p : Addr} {o : HO} (k : Ok pp F H) (hF : F p = none) (hH : H p = some o) (g : Gr pp (upd F p o) H F' H') : Gr pp F H (fun a => if a = p then none else F' a) H' where
  f := fun a u e => by
    have q : a ≠ p := ne_of_none e hF
    show (if a = p then none else F' a) = some u
    rw [if_neg q]
    exact g.f a u (by rw [upd_ne q]; exact e)
  s := fun a u e => by
    have e' : (if a = p then none else F' a) = some u := e
    by_cases q : a = p
    · rw [if_pos q] at e'
      cases e'
    · rw [if_neg q] at e'
      exact g.s a u e'
  k := g.k
  n := fun a u e => by
    have e' : (if a = p then none else F' a) = some u := e
    by_cases q : a = p
    · rw [if_pos q] at e'
      cases e'
    · rw [if_neg q] at e'
      rcases g.n a u e' with z | z
      · rw [upd_ne q] at z
        exact .inl z
      · exact .inr z
  p := fun a ha => by
    obtain ⟨q1, q2⟩ := g.p a ha
    refine ⟨?_, q2⟩
    show (if a = p then none else F' a) = none
    by_cases q : a = p
    · rw [if_pos q]
    · rw [if_neg q]
      exact q1
theorem je_view {i : Nat} {Rm : List V → Hp → Prop} (hG : G[i]? = some (.mt Rm)) (hR : Pl R) (p : PE X e (tE E (G.set i (.fz (LstOf Rm))) R)) : PE X e (tE E G R) := PE_imp p fun σ H Q ⟨F, S, k⟩ => by
  obtain ⟨p, vs, e, h1, h2, h3, h4, S'⟩ := S.freeze hG
  exact ⟨_, S', fun v F2 H2 g u => k v _ H2 (hide_gr S.ok h1 h3 g) fun F3 _ => hR v F2 F3 u.here⟩
end
end Gw
set_option maxHeartbeats 4000000
namespace Gw
open PySem PySem.Spec PyProof.Rows L2

/-! ### values by kinds -/
def LsOf {α : Type} (R : α → V → Hp → Prop) (xs : List α) (vs : List V) (F : Hp) : Prop := Paired (fun x v => Up (R x) v F) xs vs
abbrev IsL {α : Type} (R : α → V → Hp → Prop) (xs : List α) : V → Hp → Prop := LstOf (LsOf R xs)
abbrev IsTs {α : Type} (R : α → V → Hp → Prop) (xs : List α) : V → Hp → Prop := TupOf (LsOf R xs)
abbrev IsTp (Rs : List (V → Hp → Prop)) : V → Hp → Prop := TupOf (Args Rs)
def IsSq {α : Type} (R : α → V → Hp → Prop) (xs : List α) (v : V) (F : Hp) : Prop := IsL R xs v F ∨ IsTs R xs v F
theorem LsOf.up {α : Type} {R : α → V → Hp → Prop} {xs : List α} {vs : List V} {F : Hp} (h : LsOf R xs vs F) : Up (LsOf R xs) vs F := fun _ e => Paired.mapP h fun _ _ u => u.mono e
theorem LstOf.up {R : List V → Hp → Prop} {v : V} {F : Hp} (h : LstOf R v F) : Up (LstOf R) v F := fun F' e => by
  obtain ⟨a, vs, e1, e2, u⟩ := h
  exact ⟨a, vs, e1, e _ _ e2, u.mono e⟩
theorem TupOf.up {R : List V → Hp → Prop} {v : V} {F : Hp} (h : TupOf R v F) : Up (TupOf R) v F := fun F' e => by
  obtain ⟨a, vs, e1, e2, u⟩ := h
  exact ⟨a, vs, e1, e _ _ e2, u.mono e⟩
theorem LsOf.len {α : Type} {R : α → V → Hp → Prop} {xs : List α} {vs : List V} {F : Hp} (h : LsOf R xs vs F) : xs.length = vs.length := Paired.length h
theorem paired_get {α β : Type} {P : α → β → Prop} {xs : List α} {ys : List β} (p : Paired P xs ys) : ∀ (i : Nat) (x : α), xs[i]? = some x → ∃ y, ys[i]? = some y ∧ P x y := by
  induction p with
  | nil => intro i x e; simp at e
  | cons r t ih =>
    intro i x e
    cases i with
    | zero =>
      simp at e
      subst e
      exact ⟨_, rfl, r⟩
    | succ i =>
      simp at e
      obtain ⟨y, e1, u⟩ := ih i x e
      exact ⟨y, by simpa using e1, u⟩
theorem LsOf.get {α : Type} {R : α → V → Hp → Prop} {xs : List α} {vs : List V} {F : Hp} (h : LsOf R xs vs F) {i : Nat} {x : α} (e : xs[i]? = some x) : ∃ v, vs[i]? = some v ∧ Up (R x) v F := paired_get h i x e
theorem LsOf.snoc {α : Type} {R : α → V → Hp → Prop} {xs : List α} {vs : List V} {F : Hp} {x : α} {v : V} (h : LsOf R xs vs F) (u : Up (R x) v F) : LsOf R (xs ++ [x]) (vs ++ [v]) F := Paired.snoc h u
theorem LsOf.nil {α : Type} {R : α → V → Hp → Prop} {F : Hp} : LsOf R ([] : List α) [] F := Paired.nil
theorem paired_app {α β : Type} {P : α → β → Prop} {xs xs' : List α} {ys ys' : List β} (p : Paired P xs ys) (q : Paired P xs' ys') : Paired P (xs ++ xs') (ys ++ ys') := by
  induction p with
  | nil => exact q
  | cons r t ih => exact .cons r ih
theorem paired_drop {α β : Type} {P : α → β → Prop} {xs : List α} {ys : List β} (p : Paired P xs ys) : ∀ n, Paired P (xs.drop n) (ys.drop n) := by
  induction p with
  | nil => intro n; simp; exact .nil
  | cons r t ih =>
    intro n
    cases n with
    | zero => exact .cons r t
    | succ n => exact ih n
theorem paired_take {α β : Type} {P : α → β → Prop} {xs : List α} {ys : List β} (p : Paired P xs ys) : ∀ n, Paired P (xs.take n) (ys.take n) := by
  induction p with
  | nil => intro n; simp; exact .nil
  | cons r t ih =>
    intro n
    cases n with
    | zero => exact .nil
    | succ n => exact .cons r (ih n)
theorem paired_set {α β : Type} {P : α → β → Prop} {xs : List α} {ys : List β} {a : α} {b : β} (p : Paired P xs ys) (h : P a b) : ∀ n, Paired P (xs.set n a) (ys.set n b) := by
  induction p with
  | nil => intro n; exact .nil
  | cons r t ih =>
    intro n
    cases n with
    | zero => exact .cons h t
    | succ n => exact .cons r (ih n)
theorem args_ls {α : Type} {R : α → V → Hp → Prop} {F : Hp} : ∀ {xs : List α} {vs : List V}, Args (xs.map R) vs F → LsOf R xs vs F
  | [], [], _ => .nil
  | x :: xs, v :: vs, .cons r t => .cons r (args_ls t)
theorem ls_args {α : Type} {R : α → V → Hp → Prop} {F : Hp} : ∀ {xs : List α} {vs : List V}, LsOf R xs vs F → Args (xs.map R) vs F
  | [], [], _ => .nil
  | x :: xs, v :: vs, .cons r t => .cons r (ls_args t)
/-- a display as a list of one kind: xs.map R is the displays' kinds -/
theorem jm_ls {X : Cx} {E : En} {G : List Sl} {e : Expr} {α : Type} {R : α → V → Hp → Prop} (xs : List α) {Rs : List (V → Hp → Prop)} (p : PE X e (tM E G (Args Rs))) (h : Rs = xs.map R := by rfl) : PE X e (tM E G (LsOf R xs)) := by
  subst h
  exact jm_conv p fun v F q => args_ls q

section
variable {X : Cx} {E : En} {G : List Sl} {e a b c : Expr} {R R' Ra Rb Rz : V → Hp → Prop} {pos : Pos} {st : Stmt} {rest body : List Stmt} {Rt : V → Hp → Hp → Prop} {N N1 : List Sl → Prop}
/-! ### statements -/
theorem js_cons (p : PS X st (tS E G Rt N1)) (q : ∀ G1, N1 G1 → PSs X rest (tS E G1 Rt N)) : PSs X (st :: rest) (tS E G Rt N) :=
  PSs_imp (pss_cons p (PSs_any (ι := { G1 // N1 G1 }) (t := fun i => tS E i.1 Rt N) fun i => q i.1 i.2)) fun D σ H ⟨F, S, kn, kr⟩ =>
    ⟨F, S, fun G1 σ1 F1 H1 n1 S1 e1 => ⟨⟨G1, n1⟩, F1, S1, fun G2 σ2 F2 H2 n2 S2 e2 => kn G2 σ2 F2 H2 n2 S2 (e1.trans e2), kr⟩, kr⟩
theorem js_seq {G1 : List Sl} (p : PS X st (tS E G Rt (· = G1))) (q : PSs X rest (tS E G1 Rt N)) : PSs X (st :: rest) (tS E G Rt N) := js_cons p fun G2 h => by
  subst h
  exact q
theorem js_one (p : PS X st (tS E G Rt N)) : PSs X [st] (tS E G Rt N) := pss_one p
theorem js_nil (h : N G) : PSs X [] (tS E G Rt N) := PSs_imp pss_nil fun D σ H ⟨F, S, kn, kr⟩ => kn G σ F H h S (Ex.refl F)
theorem js_N (p : PS X st (tS E G Rt N1)) (h : ∀ G', N1 G' → N G') : PS X st (tS E G Rt N) := PS_imp p fun D σ H ⟨F, S, kn, kr⟩ => ⟨F, S, fun G' σ' F' H' n => kn G' σ' F' H' (h G' n), kr⟩
theorem jss_N {st : List Stmt} (p : PSs X st (tS E G Rt N1)) (h : ∀ G', N1 G' → N G') : PSs X st (tS E G Rt N) := PSs_imp p fun D σ H ⟨F, S, kn, kr⟩ => ⟨F, S, fun G' σ' F' H' n => kn G' σ' F' H' (h G' n), kr⟩
theorem js_set {i : Nat} (p : PS X st (tAsg (tE E G R) (gName i))) : PS X st (tS E G Rt (· = G.set i (.fz R))) := PS_imp p fun D σ H ⟨F, S, kn, kr⟩ =>
  ⟨F, S, fun v F' H' g u => kn _ _ F' H' rfl ((S.gr g).set_fz u) g.f⟩
theorem fresh_mt {σ : L2.St} {F H : Hp} (S : Sat E G σ F H) {p : Addr} (hp : H p = none) {j : Nat} {Rm : List V → Hp → Prop} (h : G[j]? = some (.mt Rm)) (hs : σ[j]? = some (some (.ref p))) : False := by
  obtain ⟨q, vs, e, _, _, e3, _⟩ := S.mt j Rm h
  rw [hs] at e
  cases e
  rw [hp] at e3
  cases e3
theorem Bs.none {F H : Hp} (b : Bs E F H) {p : Addr} (h : H p = none) : E.H p = none := b.back h
theorem js_setM {i : Nat} {Rm : List V → Hp → Prop} (p : PS X st (tAsg (tM E G Rm) (gName i))) : PS X st (tS E G Rt (· = G.set i (.mt Rm))) := PS_imp p fun D σ H ⟨F, S, kn, kr⟩ =>
  ⟨F, S, fun p vs F' H' g n1 n2 n3 u => kn _ _ F' H' rfl ((S.gr g).set_mt n2 (S.bs.back n1) n3 u fun j Rj _ h hs => fresh_mt S n1 h hs) g.f⟩
def Rn (R : V → Hp → Prop) : V → Hp → Hp → Prop := fun v F _ => Up R v F
def RnM (E : En) (Rm : List V → Hp → Prop) : V → Hp → Hp → Prop := fun v F H => ∃ p vs, v = .ref p ∧ E.H p = none ∧ F p = none ∧ H p = some (.lst vs) ∧ Up Rm vs F
theorem js_ret (p : PE X e (tE E G R)) : PS X (.Return (some e) pos) (tS E G (Rn R) N) := PS_imp (ps_ret p) fun D σ H ⟨F, S, kn, kr⟩ => ⟨F, S, fun v F' H' g u => kr v F' H' (S.bs.trans g) u⟩
theorem js_retM {Rm : List V → Hp → Prop} (p : PE X e (tM E G Rm)) : PS X (.Return (some e) pos) (tS E G (RnM E Rm) N) := PS_imp (ps_ret p) fun D σ H ⟨F, S, kn, kr⟩ =>
  ⟨F, S, fun p vs F' H' g n1 n2 n3 u => kr (.ref p) F' H' (S.bs.trans g) ⟨p, vs, rfl, S.bs.back n1, n2, n3, u⟩⟩
/-- return of a list's name -/
theorem js_retV {i : Nat} {Rm : List V → Hp → Prop} (p : PE X e (tVar i)) (h : G[i]? = some (.mt Rm)) : PS X (.Return (some e) pos) (tS E G (Rn (LstOf Rm)) N) := PS_imp (ps_ret p) fun D σ H ⟨F, S, kn, kr⟩ => by
  obtain ⟨p, vs, e1, h1, h2, h3, h4, S2⟩ := S.freeze h
  exact ⟨.ref p, e1, kr _ _ H S2.bs (LstOf.up ⟨p, vs, rfl, upd_same, h4.mono (Ex.new h1)⟩)⟩
theorem js_retVM {i : Nat} {Rm : List V → Hp → Prop} (p : PE X e (tVar i)) (h : G[i]? = some (.mt Rm)) : PS X (.Return (some e) pos) (tS E G (RnM E Rm) N) := PS_imp (ps_ret p) fun D σ H ⟨F, S, kn, kr⟩ => by
  obtain ⟨p, vs, e1, h1, h2, h3, h4⟩ := S.mt i Rm h
  exact ⟨.ref p, e1, kr _ F H S.bs ⟨p, vs, rfl, h2, h1, h3, h4⟩⟩
theorem js_if {b1 : Bool} {p q : List Stmt} (hc : PT X c (tT E G b1)) (h1 : b1 = true → PSs X p (tS E G Rt N)) (h2 : b1 = false → PSs X q (tS E G Rt N)) : PS X (.If c p q pos) (tS E G Rt N) :=
  PS_imp (ps_if hc (PSs_when h1) (PSs_when h2)) fun D σ H ⟨F, S, kn, kr⟩ => ⟨F, S, fun F1 H1 g1 => by
    cases b1 with
    | true =>
      show (true = true ∧ tS E G Rt N D σ H1)
      exact ⟨rfl, F1, S.gr g1, fun G2 σ2 F2 H2 n2 S2 e2 => kn G2 σ2 F2 H2 n2 S2 (g1.f.trans e2), kr⟩
    | false =>
      show (false = false ∧ tS E G Rt N D σ H1)
      exact ⟨rfl, F1, S.gr g1, fun G2 σ2 F2 H2 n2 S2 e2 => kn G2 σ2 F2 H2 n2 S2 (g1.f.trans e2), kr⟩⟩
theorem js_never (h : False) : PS X st (tS E G Rt N) := h.elim
theorem jss_never {st : List Stmt} (h : False) : PSs X st (tS E G Rt N) := h.elim
theorem js_expr (p : PE X e (tE E G R)) (hs : swapsWith e none pos.line X.env = pure false := by rfl) : PS X (.Expr e pos) (tS E G Rt (· = G)) := PS_imp (ps_expr p hs) fun D σ H ⟨F, S, kn, kr⟩ =>
  ⟨F, S, fun v F' H' g u => kn G σ F' H' rfl (S.gr g) g.f⟩
/-- xs.append(e), xs a list of this def's own -/
theorem js_append {i : Nat} {Rm Rm' : List V → Hp → Prop} {K : PySem.W.Frag} (p : PS X st (tDrop (tBM K "list" rAppend (tVar i) (tCons (tE E G R) tNil)))) (h : G[i]? = some (.mt Rm))
    (ha : ∀ vs v F, Up Rm vs F → Up R v F → Up Rm' (vs ++ [v]) F) (hz : ∀ vs F, Rm vs F → vs.length < sizeLine) : PS X st (tS E G Rt (· = G.set i (.mt Rm'))) := PS_imp p fun D σ H ⟨F, S, kn, kr⟩ => by
  obtain ⟨p, vs, e1, h1, h2, h3, h4⟩ := S.mt i Rm h
  refine ⟨.ref p, e1, .inl ⟨rfl, vs, .inl (.inl h3)⟩, F, S, fun v F1 H1 g1 u1 => ?_⟩
  have S1 := S.gr g1
  obtain ⟨p', vs', e1', h1', h2', h3', h4'⟩ := S1.mt i Rm h
  rw [e1] at e1'
  cases e1'
  refine ⟨p, vs', v, rfl, rfl, h3', hz vs' F1 h4'.here, ?_⟩
  exact kn _ σ F1 _ rfl (S1.turn h e1 (ha vs' v F1 h4' u1)) g1.f
/-- xs.append(ys), both of this def's own: ys freezes -/
theorem js_appendM {i j : Nat} {Rm Rm' Rj : List V → Hp → Prop} {K : PySem.W.Frag} (p : PS X st (tDrop (tBM K "list" rAppend (tVar i) (tCons (tVar j) tNil)))) (hij : i ≠ j) (h : G[i]? = some (.mt Rm)) (hj : G[j]? = some (.mt Rj))
    (ha : ∀ vs v F, Up Rm vs F → Up (LstOf Rj) v F → Up Rm' (vs ++ [v]) F) (hz : ∀ vs F, Rm vs F → vs.length < sizeLine) : PS X st (tS E G Rt (· = (G.set j (.fz (LstOf Rj))).set i (.mt Rm'))) := PS_imp p fun D σ H ⟨F, S, kn, kr⟩ => by
  obtain ⟨q, ws, e2, k1, k2, k3, k4, S2⟩ := S.freeze hj
  have h' : (G.set j (.fz (LstOf Rj)))[i]? = some (.mt Rm) := by rw [List.getElem?_set_ne (Ne.symm hij)]; exact h
  obtain ⟨p, vs, e1, h1, h2, h3, h4⟩ := S2.mt i Rm h'
  refine ⟨.ref p, e1, .inl ⟨rfl, vs, .inl (.inl h3)⟩, .ref q, e2, p, vs, .ref q, rfl, rfl, h3, hz vs _ h4.here, ?_⟩
  exact kn _ σ _ _ rfl (S2.turn h' e1 (ha vs (.ref q) _ h4 (LstOf.up ⟨q, ws, rfl, upd_same, k4.mono (Ex.new k1)⟩))) (Ex.new k1)
/-- xs.extend(e) -/
theorem js_extend {α : Type} {Rx : α → V → Hp → Prop} {ys : List α} {i : Nat} {Rm Rm' : List V → Hp → Prop} {K : PySem.W.Frag} (p : PS X st (tDrop (tBM K "list" rExtend (tVar i) (tCons (tE E G (IsL Rx ys)) tNil)))) (h : G[i]? = some (.mt Rm))
    (ha : ∀ vs ws F, Up Rm vs F → LsOf Rx ys ws F → Up Rm' (vs ++ ws) F) (hz : ∀ vs F, Rm vs F → vs.length + ys.length ≤ sizeLine) : PS X st (tS E G Rt (· = G.set i (.mt Rm'))) := PS_imp p fun D σ H ⟨F, S, kn, kr⟩ => by
  obtain ⟨p, vs, e1, h1, h2, h3, h4⟩ := S.mt i Rm h
  refine ⟨.ref p, e1, .inl ⟨rfl, vs, .inl (.inl h3)⟩, F, S, fun v F1 H1 g1 u1 => ?_⟩
  have S1 := S.gr g1
  obtain ⟨p', vs', e1', h1', h2', h3', h4'⟩ := S1.mt i Rm h
  rw [e1] at e1'
  cases e1'
  obtain ⟨b, ws, rfl, hb, hw⟩ := u1.here
  refine ⟨p, b, vs', ws, rfl, rfl, h3', g1.s _ _ hb, ?_, ?_⟩
  · rw [← hw.here.len]
    exact hz vs' F1 h4'.here
  · exact kn _ σ F1 _ rfl (S1.turn h e1 (ha vs' ws F1 h4' hw.here)) g1.f
/-- xs[k] = e, xs of this def's own -/
theorem js_setitem {i : Nat} {k : Int} {j : Nat} {Rm Rm' : List V → Hp → Prop} {ti : TE} (p : PS X st (tAsg (tE E G R) (gSub (tVar i) (tE E G (IsI k)) rSetL))) (h : G[i]? = some (.mt Rm))
    (hk : ∀ vs F, Rm vs F → ixN vs.length k = some j) (ha : ∀ vs v F, Up Rm vs F → Up R v F → Up Rm' (vs.set j v) F) : PS X st (tS E G Rt (· = G.set i (.mt Rm'))) := PS_imp p fun D σ H ⟨F, S, kn, kr⟩ => by
  refine ⟨F, S, fun v F1 H1 g1 u1 => ?_⟩
  have S1 := S.gr g1
  obtain ⟨p, vs, e1, h1, h2, h3, h4⟩ := S1.mt i Rm h
  refine ⟨.ref p, e1, F1, S1, fun w F2 H2 g2 u2 => ?_⟩
  have S2 := S1.gr g2
  obtain ⟨p', vs', e1', h1', h2', h3', h4'⟩ := S2.mt i Rm h
  rw [e1] at e1'
  cases e1'
  refine ⟨p, vs', k, j, rfl, u2.here, h3', hk vs' F2 h4'.here, ?_⟩
  exact kn _ σ F2 _ rfl (S2.turn h e1 (ha vs' v F2 h4' (u1.mono g2.f))) (g1.f.trans g2.f)
/-- x = xs.pop() -/
theorem js_pop {i j : Nat} {Rm Rm' : List V → Hp → Prop} {K : PySem.W.Frag} (p : PS X st (tAsg (tBM0 K "list" rPop (tVar i)) (gName j))) (hij : i ≠ j) (h : G[i]? = some (.mt Rm))
    (ha : ∀ vs F, Up Rm vs F → ∃ v, vs[vs.length - 1]? = some v ∧ Up R v F ∧ Up Rm' vs.dropLast F) : PS X st (tS E G Rt (· = (G.set i (.mt Rm')).set j (.fz R))) := PS_imp p fun D σ H ⟨F, S, kn, kr⟩ => by
  obtain ⟨p, vs, e1, h1, h2, h3, h4⟩ := S.mt i Rm h
  obtain ⟨v, hv, u, u'⟩ := ha vs F h4
  refine ⟨.ref p, e1, .inl ⟨rfl, vs, .inl (.inl h3)⟩, p, vs, v, rfl, rfl, h3, hv, ?_⟩
  exact kn _ _ F _ rfl ((S.turn h e1 u').set_fz u) (Ex.refl F)
/-! ### parallel assignments -/
theorem js_par {i j : Nat} (p : PS X st (tPar i j (tCons (tE E G Ra) (tCons (tE E G Rb) tNil)))) : PS X st (tS E G Rt (· = (G.set i (.fz Ra)).set j (.fz Rb))) := PS_imp p fun D σ H ⟨F, S, kn, kr⟩ =>
  ⟨F, S, fun v F1 H1 g1 u1 => ⟨F1, S.gr g1, fun w F2 H2 g2 u2 => ⟨v, w, rfl, kn _ _ F2 H2 rfl (((S.gr (g1.trans g2)).set_fz (u1.mono g2.f)).set_fz u2) (g1.trans g2).f⟩⟩⟩
theorem js_parFM {i j : Nat} {Rm : List V → Hp → Prop} (hij : i ≠ j) (p : PS X st (tPar i j (tCons (tE E G Ra) (tCons (tM E G Rm) tNil)))) : PS X st (tS E G Rt (· = (G.set i (.fz Ra)).set j (.mt Rm))) := PS_imp p fun D σ H ⟨F, S, kn, kr⟩ =>
  ⟨F, S, fun v F1 H1 g1 u1 => ⟨F1, S.gr g1, fun q ws F2 H2 g2 n1 n2 n3 u2 => ⟨v, .ref q, rfl, kn _ _ F2 H2 rfl (((S.gr (g1.trans g2)).set_fz (u1.mono g2.f)).set_mt n2 ((S.gr g1).bs.back n1) n3 u2 fun k Rk hk hG hs => by
    by_cases z : k = i
    · subst z
      have hl : k < G.length := by
        have := (List.getElem?_eq_some_iff.mp hG).1
        simpa using this
      rw [List.getElem?_set_self hl] at hG
      cases hG
    · rw [List.getElem?_set_ne (Ne.symm z)] at hG hs
      exact fresh_mt (S.gr g1) n1 hG hs) (g1.trans g2).f⟩⟩⟩
theorem js_parMM {i j : Nat} {Rm Rl : List V → Hp → Prop} (hij : i ≠ j) (p : PS X st (tPar i j (tCons (tM E G Rm) (tCons (tM E G Rl) tNil)))) : PS X st (tS E G Rt (· = (G.set i (.mt Rm)).set j (.mt Rl))) := PS_imp p fun D σ H ⟨F, S, kn, kr⟩ =>
  ⟨F, S, fun q ws F1 H1 g1 n1 n2 n3 u1 => ⟨F1, S.gr g1, fun q' ws' F2 H2 g2 m1 m2 m3 u2 => ⟨.ref q, .ref q', rfl, by
    have nq : q ≠ q' := ne_of_none n3 m1
    have np : E.pp ≠ some q := fun z => by
      obtain ⟨_, x, y, h2, _⟩ := S.ok.p q z
      rw [n1] at h2
      cases h2
    have f2 : F2 q = none := by
      cases z : F2 q with
      | none => rfl
      | some o =>
        rcases g2.n q o z with w | w
        · rw [n2] at w; cases w
        · rw [n3] at w; cases w
    have S1 := (S.gr (g1.trans g2)).set_mt (i := i) f2 (S.bs.back n1) (g2.k q _ n3 np) (u1.mono g2.f) fun k Rk hk hG hs => fresh_mt S n1 hG hs
    refine kn _ _ F2 H2 rfl (S1.set_mt m2 ((S.gr g1).bs.back m1) m3 u2 fun k Rk hk hG hs => ?_) (g1.trans g2).f
    by_cases z : k = i
    · subst z
      have hl : k < σ.length := by
        have := (List.getElem?_eq_some_iff.mp hs).1
        simpa using this
      rw [List.getElem?_set_self hl] at hs
      cases hs
      exact nq rfl
    · rw [List.getElem?_set_ne (Ne.symm z)] at hG hs
      exact fresh_mt (S.gr g1) m1 hG hs⟩⟩⟩
theorem js_parMF {i j : Nat} {Rm : List V → Hp → Prop} (hij : i ≠ j) (p : PS X st (tPar i j (tCons (tM E G Rm) (tCons (tE E G Rb) tNil)))) : PS X st (tS E G Rt (· = (G.set i (.mt Rm)).set j (.fz Rb))) := PS_imp p fun D σ H ⟨F, S, kn, kr⟩ =>
  ⟨F, S, fun q ws F1 H1 g1 n1 n2 n3 u1 => ⟨F1, S.gr g1, fun w F2 H2 g2 u2 => ⟨.ref q, w, rfl, by
    have np : E.pp ≠ some q := fun z => by
      obtain ⟨_, x, y, h2, _⟩ := S.ok.p q z
      rw [n1] at h2
      cases h2
    have f2 : F2 q = none := by
      cases z : F2 q with
      | none => rfl
      | some o =>
        rcases g2.n q o z with w | w
        · rw [n2] at w; cases w
        · rw [n3] at w; cases w
    have S1 := (S.gr (g1.trans g2)).set_mt (i := i) f2 (S.bs.back n1) (g2.k q _ n3 np) (u1.mono g2.f) fun k Rk hk hG hs => fresh_mt S n1 hG hs
    exact kn _ _ F2 H2 rfl (S1.set_fz u2) (g1.trans g2).f⟩⟩⟩
theorem js_par3 {i j l : Nat} {Rc : V → Hp → Prop} (p : PS X st (tPar3 i j l (tCons (tE E G Ra) (tCons (tE E G Rb) (tCons (tE E G Rc) tNil))))) : PS X st (tS E G Rt (· = ((G.set i (.fz Ra)).set j (.fz Rb)).set l (.fz Rc))) := PS_imp p fun D σ H ⟨F, S, kn, kr⟩ =>
  ⟨F, S, fun v F1 H1 g1 u1 => ⟨F1, S.gr g1, fun w F2 H2 g2 u2 => ⟨F2, S.gr (g1.trans g2), fun z F3 H3 g3 u3 => ⟨v, w, z, rfl,
    kn _ _ F3 H3 rfl ((((S.gr ((g1.trans g2).trans g3)).set_fz (u1.mono (g2.f.trans g3.f))).set_fz (u2.mono g3.f)).set_fz u3) ((g1.trans g2).trans g3).f⟩⟩⟩⟩
/-! ### targets -/
def tG (E : En) (R : V → Hp → Prop) (idx : List Nat) (f : List Sl → List Sl) : TG := fun v σ H Q => ∃ G F, Sat E G σ F H ∧ Up R v F ∧ ∀ σ', (∀ vs, (∀ k ∈ idx, k ∈ vs) → L2.wipe σ' vs = L2.wipe σ vs) → Sat E (f G) σ' F H → Q σ' H
theorem jg_name {i : Nat} (p : PG X e (gName i)) : PG X e (tG E R [i] (fun G => G.set i (.fz R))) := PG_imp p fun v σ H Q ⟨G, F, S, u, k⟩ => k _ (fun vs h => wipe_set (h i (by simp))) (S.set_fz u)
theorem jg_tup2 {i j : Nat} {K : PySem.W.Frag} (p : PG X e (gTup K 2 (gCons (gName i) (gCons (gName j) gNil)))) : PG X e (tG E (IsTp [Ra, Rb]) [i, j] (fun G => (G.set i (.fz Ra)).set j (.fz Rb))) := PG_imp p fun v σ H Q ⟨G, F, S, u, k⟩ => by
  obtain ⟨a, vs, rfl, ha, hu⟩ := u.here
  have hu := hu.here
  cases hu with
  | cons r1 t1 =>
    cases t1 with
    | cons r2 t2 =>
      cases t2
      refine ⟨a, _, rfl, .inl (.inl (S.ok.s _ _ ha)), rfl, _, _, rfl, _, _, rfl, rfl, k _ (fun vs h => ?_) ((S.set_fz r1).set_fz r2)⟩
      rw [wipe_set (h j (by simp)), wipe_set (h i (by simp))]
theorem jg_tup3 {i j l : Nat} {Rc : V → Hp → Prop} {K : PySem.W.Frag} (p : PG X e (gTup K 3 (gCons (gName i) (gCons (gName j) (gCons (gName l) gNil))))) : PG X e (tG E (IsTp [Ra, Rb, Rc]) [i, j, l] (fun G => ((G.set i (.fz Ra)).set j (.fz Rb)).set l (.fz Rc))) := PG_imp p fun v σ H Q ⟨G, F, S, u, k⟩ => by
  obtain ⟨a, vs, rfl, ha, hu⟩ := u.here
  have hu := hu.here
  cases hu with
  | cons r1 t1 =>
    cases t1 with
    | cons r2 t2 =>
      cases t2 with
      | cons r3 t3 =>
        cases t3
        refine ⟨a, _, rfl, .inl (.inl (S.ok.s _ _ ha)), rfl, _, _, rfl, _, _, rfl, _, _, rfl, rfl, k _ (fun vs h => ?_) (((S.set_fz r1).set_fz r2).set_fz r3)⟩
        rw [wipe_set (h l (by simp)), wipe_set (h j (by simp)), wipe_set (h i (by simp))]
theorem js_asg {idx : List Nat} {f : List Sl → List Sl} (p : PS X st (tAsg (tE E G R) (tG E R idx f))) : PS X st (tS E G Rt (· = f G)) := PS_imp p fun D σ H ⟨F, S, kn, kr⟩ =>
  ⟨F, S, fun v F1 H1 g1 u1 => ⟨G, F1, S.gr g1, u1, fun σ' _ S' => kn _ σ' F1 H1 rfl S' g1.f⟩⟩
/-! ### what is walked -/
structure Src {α : Type} (pp : Option Addr) (J : It) (F : Hp) (R : α → V → Hp → Prop) (xs : List α) : Prop where
  go : ∀ (i : Nat) (F1 H1 : Hp), i < xs.length → Ex F F1 → Ex F1 H1 → J.go i H1
  stop : ∀ (F1 H1 : Hp), Ex F F1 → Ex F1 H1 → J.stop xs.length H1
  yld : ∀ (i : Nat) (x : α) (F1 H1 : Hp) (v : V) (H2 : Hp), xs[i]? = some x → Ex F F1 → Ok pp F1 H1 → J.yld i H1 v H2 → ∃ F2, Gr pp F1 H1 F2 H2 ∧ Up (R x) v F2
def tI {α : Type} (E : En) (G : List Sl) (R : α → V → Hp → Prop) (xs : List α) : TI := fun σ H Rj => ∃ F, Sat E G σ F H ∧ ∀ J F' H', Gr E.pp F H F' H' → Src E.pp J F' R xs → Rj J H'
theorem src_list {α : Type} {pp : Option Addr} {K : PySem.W.Frag} {a : Addr} {vs : List V} {F : Hp} {Rx : α → V → Hp → Prop} {xs : List α} (h : F a = some (.lst vs)) (u : LsOf Rx xs vs F) : Src pp (Itl K a) F Rx xs where
  go := fun i F1 H1 hi e1 e2 => ⟨vs, vs[i]'(by rw [← u.len]; exact hi), .inl (.inl (e2 _ _ (e1 _ _ h))), by simp⟩
  stop := fun F1 H1 e1 e2 => ⟨vs, .inl (.inl (e2 _ _ (e1 _ _ h))), by rw [u.len]; exact Nat.le_refl _⟩
  yld := fun i x F1 H1 v H2 hx e1 o y => by
    obtain ⟨rfl, y⟩ := y
    obtain ⟨w, hw, uw⟩ := u.get hx
    have q := y vs (.inl (.inl (o.s _ _ (e1 _ _ h))))
    rw [hw] at q
    cases q
    exact ⟨F1, o.gr, uw.mono e1⟩
theorem src_tup {α : Type} {pp : Option Addr} {K : PySem.W.Frag} {a : Addr} {vs : List V} {F : Hp} {Rx : α → V → Hp → Prop} {xs : List α} (h : F a = some (.tup vs)) (u : LsOf Rx xs vs F) : Src pp (Itt K a) F Rx xs where
  go := fun i F1 H1 hi e1 e2 => ⟨vs, vs[i]'(by rw [← u.len]; exact hi), .inl (.inl (e2 _ _ (e1 _ _ h))), by simp⟩
  stop := fun F1 H1 e1 e2 => ⟨vs, .inl (.inl (e2 _ _ (e1 _ _ h))), by rw [u.len]; exact Nat.le_refl _⟩
  yld := fun i x F1 H1 v H2 hx e1 o y => by
    obtain ⟨rfl, y⟩ := y
    obtain ⟨w, hw, uw⟩ := u.get hx
    have q := y vs (.inl (.inl (o.s _ _ (e1 _ _ h))))
    rw [hw] at q
    cases q
    exact ⟨F1, o.gr, uw.mono e1⟩
theorem ji_list {α : Type} {Rx : α → V → Hp → Prop} {xs : List α} {K : PySem.W.Frag} {tg : Expr} (p : PI X tg e (iList K (tE E G (IsL Rx xs)))) : PI X tg e (tI E G Rx xs) := PI_imp p fun σ H Rj ⟨F, S, k⟩ =>
  ⟨F, S, fun v F1 H1 g1 u1 => by
    obtain ⟨a, vs, rfl, ha, u⟩ := u1.here
    exact ⟨a, rfl, ⟨vs, .inl (.inl (g1.s _ _ ha))⟩, k _ F1 H1 g1 (src_list ha u.here)⟩⟩
theorem ji_tup {α : Type} {Rx : α → V → Hp → Prop} {xs : List α} {K : PySem.W.Frag} {tg : Expr} (p : PI X tg e (iTup K (tE E G (IsTs Rx xs)))) : PI X tg e (tI E G Rx xs) := PI_imp p fun σ H Rj ⟨F, S, k⟩ =>
  ⟨F, S, fun v F1 H1 g1 u1 => by
    obtain ⟨a, vs, rfl, ha, u⟩ := u1.here
    exact ⟨a, rfl, ⟨vs, .inl (.inl (g1.s _ _ ha))⟩, k _ F1 H1 g1 (src_tup ha u.here)⟩⟩
theorem PI_or {tg : Expr} {t u : TI} (p : PI X tg e t) (q : PI X tg e u) : PI X tg e (fun σ H R => t σ H R ∨ u σ H R) := ⟨fun pins s σ H R I h => h.elim (p.run pins s σ H R I) (q.run pins s σ H R I)⟩
theorem ji_seq {α : Type} {Rx : α → V → Hp → Prop} {xs : List α} {K : PySem.W.Frag} {tg : Expr} {i : Nat} (p : PI X tg e (iList K (tVar i))) (q : PI X tg e (iTup K (tVar i))) (h : G[i]? = some (.fz (IsSq Rx xs))) : PI X tg e (tI E G Rx xs) := PI_imp (PI_or p q) fun σ H Rj ⟨F, S, k⟩ => by
  obtain ⟨v, e1, u1⟩ := S.fz i _ h
  rcases u1.here with ⟨a, vs, rfl, ha, u⟩ | ⟨a, vs, rfl, ha, u⟩
  · exact .inl ⟨.ref a, e1, a, rfl, ⟨vs, .inl (.inl (S.ok.s _ _ ha))⟩, k _ F H S.refl (src_list ha u.here)⟩
  · exact .inr ⟨.ref a, e1, a, rfl, ⟨vs, .inl (.inl (S.ok.s _ _ ha))⟩, k _ F H S.refl (src_tup ha u.here)⟩
def upTo (n : Nat) : List Int := (List.range n).map fun (i : Nat) => (i : Int)
theorem upTo_get {n i : Nat} {x : Int} (h : (upTo n)[i]? = some x) : x = i ∧ i < n := by
  unfold upTo at h
  rw [List.getElem?_map] at h
  by_cases hi : i < n
  · rw [List.getElem?_range hi] at h
    exact ⟨(Option.some.inj h).symm, hi⟩
  · rw [List.getElem?_eq_none (by simpa using hi)] at h
    cases h
theorem ji_range {n : Nat} {tg : Expr} (hn : n < 2 ^ 62) (p : PI X tg e (iRng1 (tA E G [IsI n]))) : PI X tg e (tI E G IsI (upTo n)) := PI_imp p fun σ H Rj ⟨F, S, k⟩ =>
  ⟨F, S, fun vs F1 H1 g1 a => by
    cases a with
    | cons r t =>
      cases t
      refine ⟨(n : Int), by rw [r.here], by omega, by exact_mod_cast hn, k _ F1 H1 g1 ?_⟩
      have hl : (upTo n).length = n := by simp [upTo]
      refine ⟨fun i F2 H2 hi _ _ => ?_, fun F2 H2 _ _ => ?_, fun i x F2 H2 v H3 hx _ o y => ?_⟩
      · show i < (n : Int).toNat
        rw [hl] at hi
        simpa using hi
      · show (n : Int).toNat ≤ _
        rw [hl]
        simp
      · obtain ⟨rfl, rfl⟩ := y
        obtain ⟨rfl, _⟩ := upTo_get hx
        exact ⟨F2, o.gr, fun _ _ => by show V.int (0 + (i : Int)) = V.int (i : Int); rw [Int.zero_add]⟩⟩
def enumL {α : Type} (xs : List α) : List (Int × α) := xs.zipIdx.map fun p => ((p.2 : Int), p.1)
theorem enumL_get {α : Type} {xs : List α} {i : Nat} {p : Int × α} (h : (enumL xs)[i]? = some p) : p.1 = i ∧ xs[i]? = some p.2 := by
  unfold enumL at h
  rw [List.getElem?_map, List.getElem?_zipIdx] at h
  cases e : xs[i]? with
  | none => rw [e] at h; cases h
  | some x =>
    rw [e] at h
    cases h
    exact ⟨by simp, rfl⟩
theorem enumL_len {α : Type} (xs : List α) : (enumL xs).length = xs.length := by simp [enumL]
theorem ji_enum {α : Type} {Rx : α → V → Hp → Prop} {xs : List α} {K : PySem.W.Frag} {tg : Expr} (p : PI X tg e (iEnum K (tA E G [IsL Rx xs]))) : PI X tg e (tI E G (fun q => IsTp [IsI q.1, Rx q.2]) (enumL xs)) := PI_imp p fun σ H Rj ⟨F, S, k⟩ =>
  ⟨F, S, fun vs F1 H1 g1 a => by
    cases a with
    | cons r t =>
      cases t
      obtain ⟨a, ws, rfl, ha, u⟩ := r.here
      have u := u.here
      refine ⟨a, ws, rfl, .inl (.inl (g1.s _ _ ha)), k _ F1 H1 g1 ⟨fun i F2 H2 hi e1 e2 => ?_, fun F2 H2 e1 e2 => ?_, fun i q F2 H2 v H3 hq e1 o y => ?_⟩⟩
      · rw [enumL_len] at hi
        exact ⟨ws, ws[i]'(by rw [← u.len]; exact hi), .inl (.inl (e2 _ _ (e1 _ _ ha))), by simp⟩
      · exact ⟨ws, .inl (.inl (e2 _ _ (e1 _ _ ha))), by rw [enumL_len, u.len]; exact Nat.le_refl _⟩
      · obtain ⟨T, x, rfl, hT, rfl, f⟩ := y
        obtain ⟨h1, h2⟩ := enumL_get hq
        obtain ⟨w, hw, uw⟩ := u.get h2
        have z := f ws (.inl (.inl (o.s _ _ (e1 _ _ ha))))
        rw [hw] at z
        cases z
        refine ⟨_, Gr.new o hT, TupOf.up ⟨T, _, rfl, upd_same, Args.up (.cons (fun _ _ => ?_) (.cons ((uw.mono e1).mono (Ex.new (o.s.back hT))) .nil))⟩⟩
        show V.int _ = V.int q.1
        rw [h1]⟩
theorem ji_zip {α β : Type} {Rx : α → V → Hp → Prop} {Ry : β → V → Hp → Prop} {xs : List α} {ys : List β} {K : PySem.W.Frag} {tg : Expr} (p : PI X tg e (iZip K (tA E G [IsL Rx xs, IsL Ry ys]))) :
    PI X tg e (tI E G (fun q : α × β => IsTp [Rx q.1, Ry q.2]) (xs.zip ys)) := PI_imp p fun σ H Rj ⟨F, S, k⟩ =>
  ⟨F, S, fun vs F1 H1 g1 a => by
    cases a with
    | cons r t =>
      cases t with
      | cons r2 t2 =>
        cases t2
        obtain ⟨a, ws, rfl, ha, u⟩ := r.here
        obtain ⟨b, zs, rfl, hb, w⟩ := r2.here
        have u := u.here
        have w := w.here
        refine ⟨a, b, ws, zs, rfl, .inl (.inl (g1.s _ _ ha)), .inl (.inl (g1.s _ _ hb)), k _ F1 H1 g1 ⟨fun i F2 H2 hi e1 e2 => ?_, fun F2 H2 e1 e2 => ?_, fun i q F2 H2 v H3 hq e1 o y => ?_⟩⟩
        · rw [List.length_zip, u.len, w.len] at hi
          exact ⟨ws, zs, ws[i]'(by omega), zs[i]'(by omega), .inl (.inl (e2 _ _ (e1 _ _ ha))), .inl (.inl (e2 _ _ (e1 _ _ hb))), by simp, by simp⟩
        · refine ⟨ws, zs, .inl (.inl (e2 _ _ (e1 _ _ ha))), .inl (.inl (e2 _ _ (e1 _ _ hb))), ?_⟩
          rw [List.length_zip, u.len, w.len]
          omega
        · obtain ⟨T, x, z, rfl, hT, rfl, f1, f2⟩ := y
          rw [List.getElem?_zip_eq_some] at hq
          obtain ⟨v1, hv1, uv1⟩ := u.get hq.1
          obtain ⟨v2, hv2, uv2⟩ := w.get hq.2
          have z1 := f1 ws (.inl (.inl (o.s _ _ (e1 _ _ ha))))
          have z2 := f2 zs (.inl (.inl (o.s _ _ (e1 _ _ hb))))
          rw [hv1] at z1
          rw [hv2] at z2
          have q1 : v1 = x := Option.some.inj z1
          have q2 : v2 = z := Option.some.inj z2
          subst q1
          subst q2
          have hx := Ex.new (o := HO.tup [v1, v2]) (o.s.back hT)
          exact ⟨_, Gr.new o hT, TupOf.up ⟨T, _, rfl, upd_same, Args.up (.cons ((uv1.mono e1).mono hx) (.cons ((uv2.mono e1).mono hx) .nil))⟩⟩⟩
/-! ### loops -/
theorem js_for {α : Type} {Rx : α → V → Hp → Prop} {xs : List α} {tg iter : Expr} {idx : List Nat} {f : α → List Sl → List Sl} (hp : PassesOwn (model X.prog X.w) X.A X.env X.xe) (hc : X.calm = true)
    (hi : PI X tg iter (tI E G Rx xs)) (hg : ∀ x, PG X tg (tG E (Rx x) idx (f x))) (Iv : Nat → List Sl → Prop) (h0 : Iv 0 G)
    (hb : ∀ (i : Nat) (x : α) (G1 : List Sl), xs[i]? = some x → Iv i G1 → PSs X body (tS E (f x G1) Rt (Iv (i + 1)))) (hN : ∀ G1, Iv xs.length G1 → N G1)
    (hs : ∀ x, foldedSetIterable iter X.env x = pure x := by intro _; rfl) : PS X (.For tg iter body [] pos) (tS E G Rt N) := by
  have pg : PG X tg (fun v σ H Q => ∃ x, tG E (Rx x) idx (f x) v σ H Q) := ⟨fun pins s σ H v u Q I r ⟨x, h⟩ => (hg x).run pins s σ H v u Q I r h⟩
  have pb := PSs_any (X := X) (st := body) (ι := { q : Nat × α × List Sl // xs[q.1]? = some q.2.1 ∧ Iv q.1 q.2.2 }) (t := fun q => tS E (f q.1.2.1 q.1.2.2) Rt (Iv (q.1.1 + 1))) fun q => hb _ _ _ q.2.1 q.2.2
  refine PS_imp (ps_for hp hc hi pg pb hs) fun D σ H ⟨F, S, kn, kr⟩ => ?_
  refine ⟨F, S, fun J F1 H1 g1 src => ?_⟩
  refine ⟨fun i m σ2 H2 => m = xs.length - i ∧ i ≤ xs.length ∧ ∃ G2 F2, Iv i G2 ∧ Sat E G2 σ2 F2 H2 ∧ Ex F1 F2, ⟨xs.length, rfl, Nat.zero_le _, G, F1, h0, S.gr g1, Ex.refl _⟩, ?_⟩
  rintro i m σ2 H2 ⟨rfl, hi', G2, F2, iv, S2, e2⟩
  by_cases hlt : i < xs.length
  · have hx : xs[i]? = some xs[i] := List.getElem?_eq_getElem hlt
    refine .inr ⟨src.go i F2 H2 hlt e2 S2.ok.s, fun σ3 H3 => ∃ G3 F3, Iv (i + 1) G3 ∧ Sat E G3 σ3 F3 H3 ∧ Ex F1 F3, fun σ3 H3 ⟨G3, F3, iv3, S3, e3⟩ => ⟨xs.length - (i + 1), by omega, rfl, hlt, G3, F3, iv3, S3, e3⟩, fun v H3 y => ?_⟩
    obtain ⟨F3, g3, u3⟩ := src.yld i _ F2 H2 v H3 hx e2 S2.ok y
    refine ⟨xs[i], G2, F3, S2.gr g3, u3, fun σ4 _ S4 => ?_⟩
    exact ⟨⟨(i, xs[i], G2), hx, iv⟩, F3, S4, fun G5 σ5 F5 H5 n5 S5 e5 => ⟨G5, F5, n5, S5, (e2.trans g3.f).trans e5⟩, kr⟩
  · have e : i = xs.length := by omega
    subst e
    exact .inl ⟨src.stop F2 H2 e2 S2.ok.s, kn G2 σ2 F2 H2 (hN G2 iv) S2 (g1.f.trans e2)⟩
theorem js_while {c : Expr} (hp : PassesOwn (model X.prog X.w) X.A X.env X.xe) (Iv : Nat → List Sl → Prop) {m0 : Nat} (h0 : Iv m0 G)
    (hb : ∀ (m : Nat) (G1 : List Sl), Iv m G1 → ∃ b1 : Bool, PT X c (tT E G1 b1) ∧ (b1 = true → PSs X body (tS E G1 Rt (fun G2 => ∃ m', m' < m ∧ Iv m' G2))) ∧ (b1 = false → N G1)) : PS X (.While c body [] pos) (tS E G Rt N) := by
  have pt := PT_any (X := X) (e := c) (ι := { q : Nat × List Sl // Iv q.1 q.2 }) (t := fun q => tT E q.1.2 (Classical.choose (hb _ _ q.2))) fun q => (Classical.choose_spec (hb _ _ q.2)).1
  have pb := PSs_any (X := X) (st := body) (ι := { q : Nat × List Sl // ∃ h : Iv q.1 q.2, Classical.choose (hb _ _ h) = true }) (t := fun q => tS E q.1.2 Rt (fun G2 => ∃ m', m' < q.1.1 ∧ Iv m' G2)) fun q => (Classical.choose_spec (hb _ _ q.2.1)).2.1 q.2.2
  refine PS_imp (ps_while hp pt pb) fun D σ H ⟨F, S, kn, kr⟩ => ?_
  refine ⟨fun m σ2 H2 => ∃ G2 F2, Iv m G2 ∧ Sat E G2 σ2 F2 H2 ∧ Ex F F2, ⟨m0, G, F, h0, S, Ex.refl _⟩, fun m σ2 H2 ⟨G2, F2, iv, S2, e2⟩ => ?_⟩
  refine ⟨⟨(m, G2), iv⟩, F2, S2, fun F3 H3 g3 => ?_⟩
  cases hb1 : Classical.choose (hb m G2 iv) with
  | true =>
    show ∃ N : L2.St → Hp → Prop, _
    refine ⟨fun σ4 H4 => ∃ m', m' < m ∧ ∃ G4 F4, Iv m' G4 ∧ Sat E G4 σ4 F4 H4 ∧ Ex F F4, fun σ4 H4 ⟨m', hm, q⟩ => ⟨m', hm, q⟩, ?_⟩
    exact ⟨⟨(m, G2), iv, hb1⟩, F3, S2.gr g3, fun G5 σ5 F5 H5 ⟨m', hm, iv5⟩ S5 e5 => ⟨m', hm, G5, F5, iv5, S5, (e2.trans g3.f).trans e5⟩, kr⟩
  | false =>
    show D.nx σ2 H3
    exact kn G2 σ2 F3 H3 ((Classical.choose_spec (hb m G2 iv)).2.2 hb1) (S2.gr g3) (e2.trans g3.f)
/-! ### comprehensions -/
theorem lc_read {α β : Type} {Rx : α → V → Hp → Prop} {xs : List α} {Ry : β → V → Hp → Prop} {own : List (Str × Nat)} {idx : List Nat} {f : α → List Sl → List Sl} (pr : α → Bool) (g : α → β) (hidx : ∀ k ∈ idx, k ∈ own.map (·.2)) (hz : xs.length < sizeLine) {σ : L2.St} {H : Hp} {Q : VK}
    (hw : tM E G (LsOf Ry ((xs.filter pr).map g)) σ H Q) : tLc (tI E G Rx xs) (fun v σ H Q => ∃ x, tG E (Rx x) idx (f x) v σ H Q) (fun σ H Q => ∃ q : { x // x ∈ xs }, tT E (f q.1 (wipeG G (own.map (·.2)))) (pr q.1) σ H Q)
      (fun σ H Q => ∃ q : { x // x ∈ xs ∧ pr x = true }, tE E (f q.1 (wipeG G (own.map (·.2)))) (Ry (g q.1)) σ H Q) (own.map (·.2)) σ H Q := by
  obtain ⟨F, S, k⟩ := hw
  refine ⟨F, S, fun J F1 H1 g1 src D hD => ?_⟩
  have hD0 : H D = none := g1.back hD
  have hpD : E.pp ≠ some D := fun z => by
    obtain ⟨_, x, y, h2, _⟩ := S.ok.p D z
    rw [hD0] at h2
    cases h2
  refine ⟨fun i m H2 => m = xs.length - i ∧ i ≤ xs.length ∧ ∃ F2 acc, Gr E.pp F H F2 H2 ∧ Ex F1 F2 ∧ F2 D = none ∧ H2 D = some (.lst acc) ∧ LsOf Ry (((xs.take i).filter pr).map g) acc F2,
    ⟨xs.length, rfl, Nat.zero_le _, F1, [], g1.trans (Gr.raw g1.ok hD), Ex.refl _, g1.s.back hD, upd_same, by simp; exact .nil⟩, ?_⟩
  rintro i m H2 ⟨rfl, hi', F2, acc, g2, e2, n2, d2, u2⟩
  have S2 := S.gr g2
  by_cases hlt : i < xs.length
  · have hx : xs[i]? = some xs[i] := List.getElem?_eq_getElem hlt
    have hm : xs[i] ∈ xs := List.getElem_mem hlt
    have htk : xs.take (i + 1) = xs.take i ++ [xs[i]] := by rw [List.take_add_one, hx]; rfl
    refine .inr ⟨src.go i F2 H2 hlt e2 S2.ok.s, fun H3 => ∃ F3 acc', Gr E.pp F H F3 H3 ∧ Ex F1 F3 ∧ F3 D = none ∧ H3 D = some (.lst acc') ∧ LsOf Ry (((xs.take (i + 1)).filter pr).map g) acc' F3,
      fun H3 q => ⟨xs.length - (i + 1), by omega, rfl, hlt, q⟩, fun v H3 y => ?_⟩
    obtain ⟨F3, g3, u3⟩ := src.yld i _ F2 H2 v H3 hx e2 S2.ok y
    have keep : ∀ {F' H' F'' H'' : Hp}, Gr E.pp F' H' F'' H'' → F' D = none → ∀ {o : HO}, H' D = some o → F'' D = none ∧ H'' D = some o := fun {F' H' F'' H''} gg hn {o} ho => by
      refine ⟨?_, gg.k D o ho hpD⟩
      cases z : F'' D with
      | none => rfl
      | some w =>
        rcases gg.n D w z with q | q
        · rw [hn] at q; cases q
        · rw [ho] at q; cases q
    obtain ⟨n3, d3⟩ := keep g3 n2 d2
    refine ⟨xs[i], wipeG G (own.map (·.2)), F3, (S2.gr g3).wipe _, u3, fun σ4 hw S4 => ⟨?_, ⟨xs[i], hm⟩, F3, S4, fun F4 H4 g4 => ?_⟩⟩
    · rw [hw _ hidx, wipe_idem fun _ h => h]
    · obtain ⟨n4, d4⟩ := keep g4 n3 d3
      cases hb : pr xs[i] with
      | true =>
        show ∃ q : { x // x ∈ xs ∧ pr x = true }, tE E (f q.1 (wipeG G (own.map (·.2)))) (Ry (g q.1)) σ4 H4 _
        refine ⟨⟨xs[i], hm, hb⟩, F4, S4.gr g4, fun z F5 H5 g5 u5 => ?_⟩
        obtain ⟨n5, d5⟩ := keep g5 n4 d4
        have gg := ((g2.trans g3).trans g4).trans g5
        have u2' : LsOf Ry (((xs.take i).filter pr).map g) acc F5 := u2.up F5 ((g3.f.trans g4.f).trans g5.f)
        have hl : acc.length ≤ i := by
          rw [← u2.len, List.length_map]
          exact Nat.le_trans (List.length_filter_le _ _) (by rw [List.length_take]; omega)
        refine ⟨acc, d5, by omega, F5, acc ++ [z], ?_, ((e2.trans g3.f).trans g4.f).trans g5.f, n5, upd_same, ?_⟩
        · exact {
            f := gg.f
            s := fun a o q => by
              have ne : a ≠ D := fun w => by rw [w, n5] at q; cases q
              rw [upd_ne ne]
              exact gg.s a o q
            k := fun a o q hp => by
              have ne : a ≠ D := fun w => by rw [w, hD0] at q; cases q
              rw [upd_ne ne]
              exact gg.k a o q hp
            n := gg.n
            p := fun a ha => by
              obtain ⟨q1, x, y, q2, q3⟩ := gg.p a ha
              have ne : a ≠ D := fun w => hpD (by rw [← w]; exact ha)
              exact ⟨q1, x, y, by rw [upd_ne ne]; exact q2, q3⟩ }
        · rw [htk, List.filter_append, List.map_append]
          have : List.filter pr [xs[i]] = [xs[i]] := by simp [hb]
          rw [this]
          exact u2'.snoc u5
      | false =>
        show ∃ F3 acc', _
        refine ⟨F4, acc, (g2.trans g3).trans g4, (e2.trans g3.f).trans g4.f, n4, d4, ?_⟩
        rw [htk, List.filter_append, List.map_append]
        have : List.filter pr [xs[i]] = [] := by simp [hb]
        rw [this, List.map_nil, List.append_nil]
        exact u2.up F4 (g3.f.trans g4.f)
  · have e : i = xs.length := by omega
    subst e
    rw [List.take_length] at u2
    exact .inl ⟨src.stop F2 H2 e2 S2.ok.s, k D acc F2 H2 g2 hD0 n2 d2 u2.up⟩
theorem jm_lc {α β : Type} {Rx : α → V → Hp → Prop} {xs : List α} {Ry : β → V → Hp → Prop} {tg iter elt : Expr} {ifs : List Expr} {scope : Scope} {own : List (Str × Nat)} {idx : List Nat} {f : α → List Sl → List Sl} (pr : α → Bool) (g : α → β)
    (hc : X.calm = true) (hN : X.N.Nodup) (hi : PI X tg iter (tI E G Rx xs)) (ok : BlkOk X.N X.env.scope scope own) (hidx : ∀ k ∈ idx, k ∈ own.map (·.2))
    (hg : ∀ (s : Shared) (H : Hp) (C : Addr) (cl : List (Str × Addr)) (fp : List Addr) (x : α), PG (X.blk s H scope (compEnvC scope cl C X.env) fp) tg (tG E (Rx x) idx (f x)))
    (ht : ∀ (s : Shared) (H : Hp) (C : Addr) (cl : List (Str × Addr)) (fp : List Addr) (x : α), x ∈ xs → PTs (X.blk s H scope (compEnvC scope cl C X.env) fp) ifs (tT E (f x (wipeG G (own.map (·.2)))) (pr x)))
    (he : ∀ (s : Shared) (H : Hp) (C : Addr) (cl : List (Str × Addr)) (fp : List Addr) (x : α), x ∈ xs → pr x = true → PE (X.blk s H scope (compEnvC scope cl C X.env) fp) elt (tE E (f x (wipeG G (own.map (·.2)))) (Ry (g x))))
    (hz : xs.length < sizeLine) (hs : ∀ x, foldedSetIterable iter X.env x = pure x := by intro _; rfl) :
    PE X (.ListComp elt [⟨tg, iter, ifs, 0⟩] scope pos) (tM E G (LsOf Ry ((xs.filter pr).map g))) := by
  refine PE_imp (pe_lc hc hN hi ok (g := fun v σ H Q => ∃ x, tG E (Rx x) idx (f x) v σ H Q) (tt := fun σ H Q => ∃ q : { x // x ∈ xs }, tT E (f q.1 (wipeG G (own.map (·.2)))) (pr q.1) σ H Q)
    (te := fun σ H Q => ∃ q : { x // x ∈ xs ∧ pr x = true }, tE E (f q.1 (wipeG G (own.map (·.2)))) (Ry (g q.1)) σ H Q)
    (fun s H C cl fp => ⟨fun pins s' σ H' v u Q I r ⟨x, h⟩ => (hg s H C cl fp x).run pins s' σ H' v u Q I r h⟩) (fun s H C cl fp => PTs_any fun q => ht s H C cl fp q.1 q.2) (fun s H C cl fp => PE_any fun q => he s H C cl fp q.1 q.2.1 q.2.2) hs) fun σ H Q hw => lc_read pr g hidx hz hw
end
end Gw
set_option maxHeartbeats 4000000
namespace Gw
open PySem PySem.Spec PyProof.Rows L2

/-! ### promises -/
def G0 (Rs : List (V → Hp → Prop)) (n : Nat) : List Sl := Rs.map Sl.fz ++ List.replicate (n - Rs.length) Sl.un
def GP (Rs : List (V → Hp → Prop)) (n : Nat) : List Sl := Sl.pot :: G0 Rs (n - 1)
section
variable {ι : Type} (Rs : ι → List (V → Hp → Prop)) (pre : ι → Prop)
/-- arguments of the kinds Rs w, under pre w: a value of the kind Rz w -/
def Pr (Rz : ι → V → Hp → Prop) : Sp := fun vs H Q _ => ∃ (F : Hp) (w : ι), Ok none F H ∧ Args (Rs w) vs F ∧ pre w ∧ ∀ v F' H', Gr none F H F' H' → Up (Rz w) v F' → Q v H'
/-- .. a new list -/
def PrM (Rz : ι → List V → Hp → Prop) : Sp := fun vs H Q _ => ∃ (F : Hp) (w : ι), Ok none F H ∧ Args (Rs w) vs F ∧ pre w ∧ ∀ p ws F' H', Gr none F H F' H' → H p = none → F' p = none → H' p = some (.lst ws) → Up (Rz w) ws F' → Q (.ref p) H'
/-- the law's list first -/
def PrP (Rz : ι → V → Hp → Prop) : Sp := fun vs H Q _ => ∃ (F : Hp) (q : Addr) (us : List V) (w : ι), vs = .ref q :: us ∧ Ok (some q) F H ∧ Args (Rs w) us F ∧ pre w ∧ ∀ v F' H', Gr (some q) F H F' H' → Up (Rz w) v F' → Q v H'
def PrPM (Rz : ι → List V → Hp → Prop) : Sp := fun vs H Q _ => ∃ (F : Hp) (q : Addr) (us : List V) (w : ι), vs = .ref q :: us ∧ Ok (some q) F H ∧ Args (Rs w) us F ∧ pre w ∧ ∀ p ws F' H', Gr (some q) F H F' H' → H p = none → F' p = none → H' p = some (.lst ws) → Up (Rz w) ws F' → Q (.ref p) H'
end
theorem args_fz {F : Hp} : ∀ {Rs : List (V → Hp → Prop)} {vs : List V}, Args Rs vs F → ∀ (i : Nat) (R : V → Hp → Prop), (Rs.map Sl.fz)[i]? = some (Sl.fz R) → ∃ v, (vs.map some)[i]? = some (some v) ∧ Up R v F
  | [], [], _, i, R, h => by simp at h
  | R0 :: Rs, v :: vs, .cons r t, i, R, h => by
    cases i with
    | zero =>
      simp at h
      subst h
      exact ⟨v, rfl, r⟩
    | succ i =>
      simp only [List.map_cons, List.getElem?_cons_succ] at h ⊢
      exact args_fz t i R h
theorem g0_kind {Rs : List (V → Hp → Prop)} {n i : Nat} {s : Sl} (h : (G0 Rs n)[i]? = some s) : (∃ R, s = .fz R ∧ (Rs.map Sl.fz)[i]? = some (.fz R)) ∨ s = .un := by
  unfold G0 at h
  rw [List.getElem?_append] at h
  split at h
  · rw [List.getElem?_map] at h ⊢
    cases e : Rs[i]? with
    | none => rw [e] at h; cases h
    | some R =>
      rw [e] at h
      cases h
      exact .inl ⟨R, rfl, rfl⟩
  · exact .inr (by
      have := List.mem_of_getElem? h
      exact (List.mem_replicate.mp this).2)
theorem sat_start {F H : Hp} {Rs : List (V → Hp → Prop)} {vs : List V} {N : List Str} (ok : Ok none F H) (a : Args Rs vs F) : Sat ⟨F, H, none⟩ (G0 Rs N.length) (L2.start N vs) F H where
  len := by
    unfold L2.start G0
    rw [List.length_append, List.length_append, List.length_map, List.length_map, List.length_replicate, List.length_replicate, a.len]
  bs := ok.gr
  p0 := fun _ h => nomatch h
  fz := fun i R h => by
    rcases g0_kind h with ⟨R', e, h2⟩ | e
    · cases e
      obtain ⟨v, h3, u⟩ := args_fz a i R h2
      refine ⟨v, ?_, u⟩
      unfold L2.start
      have hl := (List.getElem?_eq_some_iff.mp h3).1
      rw [List.getElem?_append_left hl]
      exact h3
    · cases e
  mt := fun i R h => by
    rcases g0_kind h with ⟨R', e, _⟩ | e <;> cases e
  ap := fun i j R S p _ h _ => by
    rcases g0_kind h with ⟨R', e, _⟩ | e <;> cases e
  pt := fun i h => by
    rcases g0_kind h with ⟨R', e, _⟩ | e <;> cases e
theorem sat_startP {F H : Hp} {q : Addr} {Rs : List (V → Hp → Prop)} {us : List V} {N : List Str} (ok : Ok (some q) F H) (a : Args Rs us F) (hn : 0 < N.length) : Sat ⟨F, H, some q⟩ (GP Rs N.length) (L2.start N (.ref q :: us)) F H := by
  have e : L2.start N (.ref q :: us) = some (.ref q) :: (us.map some ++ List.replicate (N.length - 1 - us.length) none) := by
    unfold L2.start
    rw [List.map_cons, List.cons_append, List.length_cons, show N.length - (us.length + 1) = N.length - 1 - us.length by omega]
  have k : ∀ {i : Nat} {s : Sl}, (GP Rs N.length)[i]? = some s → (i = 0 ∧ s = .pot) ∨ ∃ j, i = j + 1 ∧ (G0 Rs (N.length - 1))[j]? = some s := fun {i s} h => by
    cases i with
    | zero => exact .inl ⟨rfl, by unfold GP at h; simpa using h.symm⟩
    | succ j => exact .inr ⟨j, rfl, by unfold GP at h; simpa using h⟩
  refine ⟨?_, ok.gr, fun z hz => ?_, fun i R h => ?_, fun i R h => ?_, fun i j R S p _ h _ _ _ => ?_, fun i h => ?_⟩
  · rw [e]
    unfold GP G0
    simp [a.len]
  · cases hz
    obtain ⟨_, x, y, h2, _⟩ := ok.p q rfl
    exact ⟨_, h2⟩
  · rcases k h with ⟨_, e2⟩ | ⟨j, rfl, h2⟩
    · cases e2
    · rcases g0_kind h2 with ⟨R', e2, h3⟩ | e2
      · cases e2
        obtain ⟨v, h4, u⟩ := args_fz a j R h3
        refine ⟨v, ?_, u⟩
        rw [e, List.getElem?_cons_succ, List.getElem?_append_left (List.getElem?_eq_some_iff.mp h4).1]
        exact h4
      · cases e2
  · rcases k h with ⟨_, e2⟩ | ⟨j, rfl, h2⟩
    · cases e2
    · rcases g0_kind h2 with ⟨R', e2, h3⟩ | e2 <;> cases e2
  · rcases k h with ⟨_, e2⟩ | ⟨j, rfl, h2⟩
    · cases e2
    · rcases g0_kind h2 with ⟨R', e2, h3⟩ | e2 <;> cases e2
  · rcases k h with ⟨rfl, _⟩ | ⟨j, rfl, h2⟩
    · exact ⟨q, by rw [e]; rfl, rfl⟩
    · rcases g0_kind h2 with ⟨R', e2, h3⟩ | e2 <;> cases e2
section
variable {P : Program} {w : World} {K : PySem.W.Frag} {mg : Str → Option Value} {base : Heap} {x qual : Str} {params : Arguments} {body : List Stmt} {scope : Scope} {dvs : List V} {kws : List (Str × V)} {f : Addr} {fd : FuncData} {N ps : List Str} {k : Nat} {ι : Type} {Rs : ι → List (V → Hp → Prop)} {pre : ι → Prop}
/-- a def keeps its promise; N0: how its end is reached without a return -/
theorem fn_pr {Rz : ι → V → Hp → Prop} (Fd : FunD K x qual params body scope dvs kws f fd) (S : FnScope N ps scope) (hl : ∀ u, (Rs u).length = ps.length) (N0 : List Sl → Prop) (hN : ∀ G u, N0 G → ∀ F, Rz u .non F)
    (hb : ∀ (X : Cx) (u : ι) (E : En), (∃ cdv A outer s H E', X = cxOf CX0 P w K mg base N qual scope f cdv A outer s H E' ∧ Room k X.A) → pre u → E.pp = none → PSs X body (tS E (G0 (Rs u) N.length) (Rn (Rz u)) N0)) : FnOk P w K mg base CX0 (k + 1) f fd ps (Pr Rs pre Rz) := by
  refine Fd.ok S (fun vs H Q E ⟨F, u, ok, a, _, _⟩ => by rw [← a.len, hl]) (fun cdv A outer s H vs Q E hr ⟨F, u, ok, a, hp, kq⟩ => ?_)
  refine ⟨tS ⟨F, H, none⟩ (G0 (Rs u) N.length) (Rn (Rz u)) N0, hb _ u ⟨F, H, none⟩ ⟨cdv, A, outer, s, H, E, rfl, hr⟩ hp rfl, F, sat_start ok a, fun G' σ' F' H' n S' _ => ?_, fun v F' H' b r => kq v F' H' b r⟩
  exact kq .non F' H' S'.bs fun F2 _ => hN G' u n F2
theorem fn_prM {Rz : ι → List V → Hp → Prop} (Fd : FunD K x qual params body scope dvs kws f fd) (S : FnScope N ps scope) (hl : ∀ u, (Rs u).length = ps.length)
    (hb : ∀ (X : Cx) (u : ι) (E : En), (∃ cdv A outer s H E', X = cxOf CX0 P w K mg base N qual scope f cdv A outer s H E' ∧ Room k X.A) → pre u → E.pp = none → PSs X body (tS E (G0 (Rs u) N.length) (RnM E (Rz u)) (fun _ => False))) : FnOk P w K mg base CX0 (k + 1) f fd ps (PrM Rs pre Rz) := by
  refine Fd.ok S (fun vs H Q E ⟨F, u, ok, a, _, _⟩ => by rw [← a.len, hl]) (fun cdv A outer s H vs Q E hr ⟨F, u, ok, a, hp, kq⟩ => ?_)
  refine ⟨tS ⟨F, H, none⟩ (G0 (Rs u) N.length) (RnM ⟨F, H, none⟩ (Rz u)) (fun _ => False), hb _ u ⟨F, H, none⟩ ⟨cdv, A, outer, s, H, E, rfl, hr⟩ hp rfl, F, sat_start ok a, fun G' σ' F' H' n S' _ => n.elim, fun v F' H' b ⟨p, vs', e1, e2, e3, e4, u⟩ => ?_⟩
  subst e1
  exact kq p vs' F' H' b e2 e3 e4 u
theorem fn_prP {Rz : ι → V → Hp → Prop} (Fd : FunD K x qual params body scope dvs kws f fd) (S : FnScope N ps scope) (hl : ∀ u, (Rs u).length + 1 = ps.length) (hn : 0 < N.length)
    (hb : ∀ (X : Cx) (u : ι) (E : En), (∃ cdv A outer s H E', X = cxOf CX0 P w K mg base N qual scope f cdv A outer s H E' ∧ Room k X.A) → pre u → PSs X body (tS E (GP (Rs u) N.length) (Rn (Rz u)) (fun _ => False))) : FnOk P w K mg base CX0 (k + 1) f fd ps (PrP Rs pre Rz) := by
  refine Fd.ok S (fun vs H Q E ⟨F, q, us, u, e, ok, a, _, _⟩ => by rw [e, List.length_cons, ← a.len, hl]) (fun cdv A outer s H vs Q E hr ⟨F, q, us, u, e, ok, a, hp, kq⟩ => ?_)
  subst e
  exact ⟨tS ⟨F, H, some q⟩ (GP (Rs u) N.length) (Rn (Rz u)) (fun _ => False), hb _ u ⟨F, H, some q⟩ ⟨cdv, A, outer, s, H, E, rfl, hr⟩ hp, F, sat_startP ok a hn, fun G' σ' F' H' n S' _ => n.elim, fun v F' H' b r => kq v F' H' b r⟩
theorem fn_prPM {Rz : ι → List V → Hp → Prop} (Fd : FunD K x qual params body scope dvs kws f fd) (S : FnScope N ps scope) (hl : ∀ u, (Rs u).length + 1 = ps.length) (hn : 0 < N.length)
    (hb : ∀ (X : Cx) (u : ι) (E : En), (∃ cdv A outer s H E', X = cxOf CX0 P w K mg base N qual scope f cdv A outer s H E' ∧ Room k X.A) → pre u → PSs X body (tS E (GP (Rs u) N.length) (RnM E (Rz u)) (fun _ => False))) : FnOk P w K mg base CX0 (k + 1) f fd ps (PrPM Rs pre Rz) := by
  refine Fd.ok S (fun vs H Q E ⟨F, q, us, u, e, ok, a, _, _⟩ => by rw [e, List.length_cons, ← a.len, hl]) (fun cdv A outer s H vs Q E hr ⟨F, q, us, u, e, ok, a, hp, kq⟩ => ?_)
  subst e
  refine ⟨tS ⟨F, H, some q⟩ (GP (Rs u) N.length) (RnM ⟨F, H, some q⟩ (Rz u)) (fun _ => False), hb _ u ⟨F, H, some q⟩ ⟨cdv, A, outer, s, H, E, rfl, hr⟩ hp, F, sat_startP ok a hn, fun G' σ' F' H' n S' _ => n.elim, fun v F' H' b ⟨p, vs', e1, e2, e3, e4, u⟩ => ?_⟩
  subst e1
  exact kq p vs' F' H' b e2 e3 e4 u
end
section
variable {X : Cx} {E : En} {G : List Sl} {e a b c : Expr} {R R' Ra Rb Rz : V → Hp → Prop} {pos : Pos} {ι : Type} {Rs : ι → List (V → Hp → Prop)} {pre : ι → Prop} {E' : XK} {pp : Option Addr}
theorem rc_pr {Rf : ι → V → Hp → Prop} {dvs : List V} {Ss : List (V → Hp → Prop)} (w : ι) (hs : ∀ vs F, Args Ss vs F → Args (Rs w) (vs ++ dvs) F) (hp : pre w) : RC pp (fun vs H Q => Pr Rs pre Rf (vs ++ dvs) H Q E') Ss (Rf w) := fun vs F H Q ok a k =>
  ⟨F, w, ok.none, hs vs F a, hp, fun v F' H' g u => k v F' H' (g.lift ok) u⟩
theorem rcm_pr {Rf : ι → List V → Hp → Prop} {dvs : List V} {Ss : List (V → Hp → Prop)} (w : ι) (hs : ∀ vs F, Args Ss vs F → Args (Rs w) (vs ++ dvs) F) (hp : pre w) : RCM pp (fun vs H Q => PrM Rs pre Rf (vs ++ dvs) H Q E') Ss (Rf w) := fun vs F H Q ok a k =>
  ⟨F, w, ok.none, hs vs F a, hp, fun p ws F' H' g n1 n2 n3 u => k p ws F' H' (g.lift ok) n1 n2 n3 u⟩
/-- f(..), all arguments written -/
theorem je_f {Rf : ι → V → Hp → Prop} (w : ι) (p : PE X e (tCall (Pr Rs pre Rf) [] E' (tA E G (Rs w)))) (hp : pre w) : PE X e (tE E G (Rf w)) :=
  je_cb (r := fun vs H Q => Pr Rs pre Rf (vs ++ []) H Q E') p (rc_pr w (fun vs F h => by rw [List.append_nil]; exact h) hp)
theorem jm_f {Rf : ι → List V → Hp → Prop} (w : ι) (p : PE X e (tCall (PrM Rs pre Rf) [] E' (tA E G (Rs w)))) (hp : pre w) : PE X e (tM E G (Rf w)) :=
  jm_cb (r := fun vs H Q => PrM Rs pre Rf (vs ++ []) H Q E') p (rcm_pr w (fun vs F h => by rw [List.append_nil]; exact h) hp)
/-- the law's list as the first argument -/
def tAP (E : En) (G : List Sl) (Rs : List (V → Hp → Prop)) : TA := fun σ H Q => ∃ F q, Sat E G σ F H ∧ E.pp = some q ∧ ∀ vs F' H', Gr E.pp F H F' H' → Args Rs vs F' → Q (.ref q :: vs) H'
theorem ja_pot {i : Nat} {es : List Expr} {Rl : List (V → Hp → Prop)} (p : PE X e (tVar i)) (h : G[i]? = some .pot) (hr : PA X es (tA E G Rl)) (hs : starEach (e :: es) X.env = (false, eval e X.env) :: starEach es X.env := by rfl) : PA X (e :: es) (tAP E G Rl) :=
  PA_imp (pa_cons p hr hs) fun σ H Q ⟨F, q, S, hq, k⟩ => by
    obtain ⟨q', e1, e2⟩ := S.pt i h
    rw [hq] at e2
    cases e2
    exact ⟨.ref q, e1, F, S, fun vs F' H' g a => k vs F' H' g a⟩
theorem je_fP {Rf : ι → V → Hp → Prop} (w : ι) (hpot : ∃ i : Nat, G[i]? = some .pot) (p : PE X e (tCall (PrP Rs pre Rf) [] E' (tAP E G (Rs w)))) (hp : pre w) : PE X e (tE E G (Rf w)) := PE_imp p fun σ H Q ⟨F, S, k⟩ => by
  obtain ⟨i, hi⟩ := hpot
  obtain ⟨q, _, hq⟩ := S.pt i hi
  refine ⟨F, q, S, hq, fun vs F1 H1 g1 a => ⟨F1, q, vs, w, by rw [List.append_nil], by rw [← hq]; exact g1.ok, a, hp, fun v F2 H2 g2 u => k v F2 H2 (g1.trans (by rw [hq]; exact g2)) u⟩⟩
theorem jm_fP {Rf : ι → List V → Hp → Prop} (w : ι) (hpot : ∃ i : Nat, G[i]? = some .pot) (p : PE X e (tCall (PrPM Rs pre Rf) [] E' (tAP E G (Rs w)))) (hp : pre w) : PE X e (tM E G (Rf w)) := PE_imp p fun σ H Q ⟨F, S, k⟩ => by
  obtain ⟨i, hi⟩ := hpot
  obtain ⟨q, _, hq⟩ := S.pt i hi
  refine ⟨F, q, S, hq, fun vs F1 H1 g1 a => ⟨F1, q, vs, w, by rw [List.append_nil], by rw [← hq]; exact g1.ok, a, hp, fun p ws F2 H2 g2 n1 n2 n3 u => k p ws F2 H2 (g1.trans (by rw [hq]; exact g2)) (g1.back n1) n2 n3 u⟩⟩
/-- a kind with an open part, at a slot -/
def Som {α : Type} (P : α → Prop) (R : α → V → Hp → Prop) (v : V) (F : Hp) : Prop := ∃ x, P x ∧ R x v F
theorem js_open {α : Type} {P : α → Prop} {R : α → V → Hp → Prop} {i : Nat} {st : List Stmt} {Rt : V → Hp → Hp → Prop} {N : List Sl → Prop} (h : G[i]? = some (.fz (Som P R))) (hm : ∀ x v F F', R x v F → Ex F F' → R x v F')
    (k : ∀ x, P x → PSs X st (tS E (G.set i (.fz (R x))) Rt N)) : PSs X st (tS E G Rt N) := PSs_imp (PSs_any (ι := { x // P x }) (t := fun q => tS E (G.set i (.fz (R q.1))) Rt N) fun q => k q.1 q.2) fun D σ H ⟨F, S, kn, kr⟩ => by
  obtain ⟨v, e1, u⟩ := S.fz i _ h
  obtain ⟨x, px, r⟩ := u.here
  have S2 := S.set_fz (i := i) (R := R x) (v := v) fun F' e => hm x v F F' r e
  have e2 : σ.set i (some v) = σ := by
    apply List.ext_getElem?
    intro j
    by_cases hj : j = i
    · subst hj
      rw [List.getElem?_set_self (List.getElem?_eq_some_iff.mp e1).1, e1]
    · rw [List.getElem?_set_ne (Ne.symm hj)]
  rw [e2] at S2
  exact ⟨⟨x, px⟩, F, S2, kn, kr⟩
theorem js_weak {G' : List Sl} {st : List Stmt} {Rt : V → Hp → Hp → Prop} {N : List Sl → Prop} (h : Paired Le G G') (k : PSs X st (tS E G' Rt N)) : PSs X st (tS E G Rt N) := PSs_imp k fun D σ H ⟨F, S, kn, kr⟩ => ⟨F, S.weakL h, kn, kr⟩

/-! ### ints -/
theorem rop_ii {g : Int → Int → V} {i j : Int} (hz : ∀ F, Rz (g i j) F) : ROp pp (rI0 g) (IsI i) (IsI j) Rz := fun x y F H Q ok u1 u2 k => ⟨i, j, u1.here, u2.here, k _ F H ok.gr fun F' _ => hz F'⟩
theorem rop_add {i j : Int} : ROp pp (rI0 fun i j => .int (i + j)) (IsI i) (IsI j) (IsI (i + j)) := rop_ii fun _ => rfl
theorem rop_sub {i j : Int} : ROp pp (rI0 fun i j => .int (i - j)) (IsI i) (IsI j) (IsI (i - j)) := rop_ii fun _ => rfl
theorem rop_lt {i j : Int} : ROp pp (rI0 fun i j => .bl (decide (i < j))) (IsI i) (IsI j) (IsB (decide (i < j))) := rop_ii fun _ => rfl
theorem rop_le {i j : Int} : ROp pp (rI0 fun i j => .bl (decide (i ≤ j))) (IsI i) (IsI j) (IsB (decide (i ≤ j))) := rop_ii fun _ => rfl
theorem rop_gt {i j : Int} : ROp pp (rI0 fun i j => .bl (decide (j < i))) (IsI i) (IsI j) (IsB (decide (j < i))) := rop_ii fun _ => rfl
theorem rop_ge {i j : Int} : ROp pp (rI0 fun i j => .bl (decide (j ≤ i))) (IsI i) (IsI j) (IsB (decide (j ≤ i))) := rop_ii fun _ => rfl
theorem rop_C {C : Int → Int → Prop} {g : Int → Int → V} {i j : Int} (hc : C i j) (hz : ∀ F, Rz (g i j) F) : ROp pp (rI C g) (IsI i) (IsI j) Rz := fun x y F H Q ok u1 u2 k => ⟨i, j, u1.here, u2.here, hc, k _ F H ok.gr fun F' _ => hz F'⟩
theorem rop_mod {i j : Int} (h : 0 < j) : ROp pp (rI (fun _ j => 0 < j) fun i j => .int (i % j)) (IsI i) (IsI j) (IsI (i % j)) := rop_C h fun _ => rfl
theorem rop_mulW {i j : Int} (h : CMulW i j) : ROp pp (rI CMulW fun i j => .int (i * j)) (IsI i) (IsI j) (IsI (i * j)) := rop_C h fun _ => rfl
theorem rop_fdiv {i j : Int} (h : CDiv i j) : ROp pp (rI CDiv fun i j => .int (i / j)) (IsI i) (IsI j) (IsI (i / j)) := rop_C h fun _ => rfl
theorem rop_eqI {i j : Int} : ROp pp rEq (IsI i) (IsI j) (IsB (decide (i = j))) := fun x y F H Q ok u1 u2 k => by
  rw [u1.here, u2.here]
  refine ⟨rfl, k _ F H ok.gr fun F' _ => ?_⟩
  show V.bl _ = V.bl _
  congr 1
  simp
theorem rop_neI {i j : Int} : ROp pp rNe (IsI i) (IsI j) (IsB (!decide (i = j))) := fun x y F H Q ok u1 u2 k => by
  rw [u1.here, u2.here]
  refine ⟨rfl, k _ F H ok.gr fun F' _ => ?_⟩
  show V.bl _ = V.bl _
  congr 1
  simp
/-- // by any divisor but 0 below 2 ^ 9000 -/
def CFdW (_ j : Int) : Prop := j ≠ 0 ∧ j.natAbs.log2 < 9000
theorem op_fdW : OpR X (binaryOp .FloorDiv) (rI CFdW fun i j => .int (i.fdiv j)) := opI fun _ _ _ _ _ _ _ hc q => floordiv_int hc.1 q (.inl (PyProof.noPylong_of_log2 hc.2))
theorem rop_fdW {i j : Int} (h : CFdW i j) : ROp pp (rI CFdW fun i j => .int (i.fdiv j)) (IsI i) (IsI j) (IsI (i.fdiv j)) := rop_C h fun _ => rfl
def CPow' (i j : Int) : Prop := CPow i j
/-- x is None of an object, of None -/
theorem rop_isN {b : Bool} (h : ∀ v F, Ra v F → decide (v = .non) = b) : ROp pp (fun x y H Q => y = .non ∧ Q (.bl (decide (x = .non))) H) Ra IsN (IsB b) := fun x y F H Q ok u1 u2 k => ⟨u2.here, k _ F H ok.gr fun F' _ => by rw [h x F u1.here]; rfl⟩
theorem rop_notN {b : Bool} (h : ∀ v F, Ra v F → (!decide (v = .non)) = b) : ROp pp (fun x y H Q => y = .non ∧ Q (.bl (!decide (x = .non))) H) Ra IsN (IsB b) := fun x y F H Q ok u1 u2 k => ⟨u2.here, k _ F H ok.gr fun F' _ => by rw [h x F u1.here]; rfl⟩
theorem ls_ints {F : Hp} : ∀ {xs : List Int} {vs : List V}, LsOf IsI xs vs F → vs = xs.map V.int
  | [], [], _ => rfl
  | x :: xs, v :: vs, .cons r t => by
    have e : v = .int x := r.here
    rw [e, ls_ints t]
    rfl
theorem ls_bools {F : Hp} : ∀ {xs : List Bool} {vs : List V}, LsOf IsB xs vs F → vs = xs.map V.bl
  | [], [], _ => rfl
  | x :: xs, v :: vs, .cons r t => by
    have e : v = .bl x := r.here
    rw [e, ls_bools t]
    rfl
theorem inV_ints (i : Int) (xs : List Int) : inV (.int i) (xs.map V.int) = decide (i ∈ xs) := by
  unfold inV
  rw [List.any_map]
  induction xs with
  | nil => simp
  | cons x xs ih =>
    rw [List.any_cons, ih]
    show ((x == i) || decide (i ∈ xs)) = decide (i ∈ x :: xs)
    by_cases h : i = x
    · subst h; simp
    · have h2 : (x == i) = false := by simpa using (Ne.symm h)
      rw [h2]
      simp [h]
theorem rop_in {K : PySem.W.Frag} {i : Int} {xs : List Int} : ROp pp (rIn K false) (IsI i) (IsL IsI xs) (IsB (decide (i ∈ xs))) := fun x y F H Q ok u1 u2 k => by
  obtain ⟨a, vs, rfl, ha, u⟩ := u2.here
  have e := ls_ints u.here
  subst e
  rw [u1.here]
  refine ⟨a, _, rfl, .inl (.inl (.inl (ok.s _ _ ha))), rfl, ?_, k _ F H ok.gr fun F' _ => ?_⟩
  · rw [List.all_map]; simp [flatV]
  · show V.bl (if false = true then _ else inV (.int i) (xs.map V.int)) = _
    rw [if_neg Bool.false_ne_true, inV_ints]
theorem rop_notIn {K : PySem.W.Frag} {i : Int} {xs : List Int} : ROp pp (rIn K true) (IsI i) (IsL IsI xs) (IsB (!decide (i ∈ xs))) := fun x y F H Q ok u1 u2 k => by
  obtain ⟨a, vs, rfl, ha, u⟩ := u2.here
  have e := ls_ints u.here
  subst e
  rw [u1.here]
  refine ⟨a, _, rfl, .inl (.inl (.inl (ok.s _ _ ha))), rfl, ?_, k _ F H ok.gr fun F' _ => ?_⟩
  · rw [List.all_map]; simp [flatV]
  · show V.bl (if true = true then !inV (.int i) (xs.map V.int) else _) = _
    rw [if_pos rfl, inV_ints]
/-- xs != [] of ints -/
theorem dp_ints {K : PySem.W.Frag} {H : Hp} : ∀ xs : List Int, DpAll K H (xs.map V.int) (xs.map PyData.int)
  | [] => .nil
  | x :: xs => .cons (.int x) (dp_ints xs)
theorem shaped_ints (xs : List Int) : SeqAt.shaped (.list (xs.map PyData.int)) = true := by
  have h1 : ∀ xs : List Int, PyData.canLayAll0 (xs.map PyData.int) = true := fun xs => by
    induction xs with
    | nil => rfl
    | cons x xs ih =>
      show (PyData.canLay0 (.int x) && PyData.canLayAll0 (xs.map PyData.int)) = true
      rw [ih] <;> rfl
  have h2 : ∀ xs : List Int, PyData.depthAll (xs.map PyData.int) ≤ 1 := fun xs => by
    induction xs with
    | nil => exact Nat.zero_le _
    | cons x xs ih =>
      have e : PyData.depthAll (PyData.int x :: xs.map PyData.int) = max (PyData.depth (.int x)) (PyData.depthAll (xs.map PyData.int)) := by
        first | rfl | simp [PyData.depthAll]
      have e2 : PyData.depth (.int x) ≤ 1 := by first | decide | simp [PyData.depth]
      show PyData.depthAll (PyData.int x :: xs.map PyData.int) ≤ 1
      omega
  have e : PyData.depth (.list (xs.map PyData.int)) ≤ 64 := by
    have h := h2 xs
    simp only [PyData.depth]
    omega
  show (PyData.canLayAll0 (xs.map PyData.int) && decide (PyData.depth (.list (xs.map PyData.int)) ≤ 64)) = true
  rw [h1 xs, decide_eq_true e] <;> rfl
theorem rop_neNil {K : PySem.W.Frag} {xs : List Int} : ROp pp (rNeD K) (IsL IsI xs) (LstOf (LsOf IsI [])) (IsB (!xs.isEmpty)) := fun x y F H Q ok u1 u2 k => by
  obtain ⟨a, vs, rfl, ha, u⟩ := u1.here
  have e := ls_ints u.here
  subst e
  obtain ⟨b, ws, rfl, hb, w⟩ := u2.here
  have e2 := ls_ints w.here
  subst e2
  refine ⟨_, _, .lst (.inl (.inl (ok.s _ _ ha))) (dp_ints xs), .lst (.inl (.inl (ok.s _ _ hb))) (dp_ints []), shaped_ints xs, rfl, k _ F H ok.gr fun F' _ => ?_⟩
  show V.bl _ = V.bl _
  cases xs <;> simp [PyData.eqv, PyData.eqvAll]
/-! ### subscripts, slices, lists of lists -/
theorem rop_ixL {K : PySem.W.Frag} {α : Type} {Rx : α → V → Hp → Prop} {xs : List α} {j : Nat} {x : α} {i : Int} (h : xs[j]? = some x) (hi : i = (j : Int) := by rfl) : ROp pp (rIxL K) (IsL Rx xs) (IsI i) (Rx x) := fun y z F H Q ok u1 u2 k => by
  obtain ⟨a, vs, rfl, ha, u⟩ := u1.here
  obtain ⟨v, hv, uv⟩ := u.here.get h
  rw [u2.here]
  exact ⟨a, vs, i, v, rfl, rfl, .inl (.inl (ok.s _ _ ha)), by rw [hi]; exact atI_nat hv, k v F H ok.gr uv⟩
theorem rop_ixT {K : PySem.W.Frag} {Rl : List (V → Hp → Prop)} {j : Nat} {Rx : V → Hp → Prop} {i : Int} (h : Rl[j]? = some Rx) (hi : i = (j : Int) := by rfl) : ROp pp (rIxT K) (IsTp Rl) (IsI i) Rx := fun y z F H Q ok u1 u2 k => by
  obtain ⟨a, vs, rfl, ha, u⟩ := u1.here
  obtain ⟨v, hv, uv⟩ := Args.get u.here h
  rw [u2.here]
  exact ⟨a, vs, i, v, rfl, rfl, .inl (.inl (ok.s _ _ ha)), by rw [hi]; exact atI_nat hv, k v F H ok.gr uv⟩
theorem rop_cat {α : Type} {Rx : α → V → Hp → Prop} {xs ys : List α} (hz : xs.length + ys.length ≤ 100000) : ROpM pp rCat (IsL Rx xs) (IsL Rx ys) (LsOf Rx (xs ++ ys)) := fun y z F H Q ok u1 u2 k => by
  obtain ⟨a, vs, rfl, ha, u⟩ := u1.here
  obtain ⟨b, ws, rfl, hb, w⟩ := u2.here
  have h1 := u.here.len
  have h2 := w.here.len
  refine ⟨a, b, vs, ws, rfl, rfl, ok.s _ _ ha, ok.s _ _ hb, ?_, fun p hp => k p (vs ++ ws) F _ (Gr.raw ok hp) hp (ok.s.back hp) upd_same ?_⟩
  · have : (100000 : Nat) ≤ sizeLine := by decide
    omega
  · exact LsOf.up (paired_app u.here w.here)
theorem paired_rep {α β : Type} {P : α → β → Prop} {xs : List α} {ys : List β} (p : Paired P xs ys) : ∀ n, Paired P (List.replicate n xs).flatten (List.replicate n ys).flatten
  | 0 => by simp; exact .nil
  | n + 1 => by
    rw [List.replicate_succ, List.replicate_succ, List.flatten_cons, List.flatten_cons]
    exact paired_app p (paired_rep p n)
theorem rop_rep {α : Type} {Rx : α → V → Hp → Prop} {xs : List α} {n : Nat} (hz : xs.length * n ≤ 100000) (hn : n ≤ 100000) : ROpM pp rRep (IsL Rx xs) (IsI (n : Int)) (LsOf Rx (List.replicate n xs).flatten) := fun y z F H Q ok u1 u2 k => by
  obtain ⟨a, vs, rfl, ha, u⟩ := u1.here
  have h1 := u.here.len
  refine ⟨a, n, vs, rfl, u2.here, ok.s _ _ ha, by omega, by omega, ?_, fun p hp => k p _ F _ (Gr.raw ok hp) hp (ok.s.back hp) upd_same ?_⟩
  · have : (100000 : Nat) ≤ sizeLine := by decide
    rw [Int.toNat_natCast, ← h1]
    omega
  · rw [Int.toNat_natCast]
    exact LsOf.up (paired_rep u.here n)
theorem jo_none : PO X none (tO E G none) := PO_imp po_none fun σ H Q ⟨F, S, k⟩ => k F H S.refl
theorem jo_some {i : Int} (p : PE X e (tE E G (IsI i))) : PO X (some e) (tO E G (some i)) := PO_imp (po_some p) fun σ H Q ⟨F, S, k⟩ => ⟨F, S, fun v F1 H1 g u => ⟨i, u.here, k F1 H1 g⟩⟩
theorem jm_slice {K : PySem.W.Frag} {α : Type} {Rx : α → V → Hp → Prop} {xs ys : List α} {lo hi : Option Int} (p : PE X e (tSl (rSlL K) (tE E G (IsL Rx xs)) (tO E G lo) (tO E G hi)))
    (h : ys = (xs.drop (HT.sIx xs.length 0 lo)).take (HT.sIx xs.length xs.length hi - HT.sIx xs.length 0 lo)) : PE X e (tM E G (LsOf Rx ys)) := PE_imp p fun σ H Q ⟨F, S, k⟩ =>
  ⟨F, S, fun x F1 H1 g1 u1 => ⟨F1, S.gr g1, fun F2 H2 g2 => ⟨F2, S.gr (g1.trans g2), fun F3 H3 g3 => by
    obtain ⟨a, vs, rfl, ha, u⟩ := u1.here
    have u2 := u.here
    refine ⟨a, vs, rfl, .inl (.inl (g3.s _ _ (g3.f _ _ (g2.f _ _ ha)))), fun p hp => ?_⟩
    have g := (g1.trans g2).trans g3
    refine k p (cutV vs lo hi) F3 _ (g.trans (Gr.raw g.ok hp)) (g.back hp) (g.s.back hp) upd_same ?_
    subst h
    unfold cutV
    rw [← u2.len]
    exact (LsOf.up (paired_take (paired_drop u2 _) _)).mono (g2.f.trans g3.f)⟩⟩⟩
theorem cut_from (n k : Nat) {α : Type} (xs : List α) (hl : xs.length = n) : (xs.drop (HT.sIx n 0 (some (k : Int)))).take (HT.sIx n n none - HT.sIx n 0 (some (k : Int))) = xs.drop k := by
  rw [show HT.sIx n 0 (some (k : Int)) = min k n from HT.sIx_nat n 0 k, show HT.sIx n n none = n from rfl]
  rw [List.take_of_length_le (by rw [List.length_drop, hl]; exact Nat.le_refl _)]
  by_cases h : k ≤ n
  · rw [Nat.min_eq_left h]
  · rw [Nat.min_eq_right (by omega), List.drop_of_length_le (by omega), List.drop_of_length_le (by omega)]
theorem cut_to (n k : Nat) {α : Type} (xs : List α) (hl : xs.length = n) : (xs.drop (HT.sIx n 0 none)).take (HT.sIx n n (some (k : Int)) - HT.sIx n 0 none) = xs.take k := by
  rw [show HT.sIx n n (some (k : Int)) = min k n from HT.sIx_nat n n k, show HT.sIx n 0 none = 0 from rfl]
  rw [List.drop_zero, Nat.sub_zero]
  by_cases h : k ≤ n
  · rw [Nat.min_eq_left h]
  · rw [Nat.min_eq_right (by omega), List.take_of_length_le (by omega), List.take_of_length_le (by omega)]
/-! ### built-ins -/
theorem rc_len {α : Type} {Rx : α → V → Hp → Prop} {xs : List α} {K : PySem.W.Frag} : RC pp (fun us H Q => ∃ x n, us = [x] ∧ LenV K x H n ∧ Q (.int n) H) [IsL Rx xs] (IsI (xs.length : Int)) := fun vs F H Q ok a k => by
  cases a with
  | cons r t =>
    cases t
    obtain ⟨p, ws, rfl, ha, u⟩ := r.here
    exact ⟨_, ws.length, rfl, .inl ⟨ws, .inl (.inl (ok.s _ _ ha)), rfl⟩, k _ F H ok.gr fun F' _ => by rw [u.here.len]; rfl⟩
theorem rc_lenT {α : Type} {Rx : α → V → Hp → Prop} {xs : List α} {K : PySem.W.Frag} : RC pp (fun us H Q => ∃ x n, us = [x] ∧ LenV K x H n ∧ Q (.int n) H) [IsTs Rx xs] (IsI (xs.length : Int)) := fun vs F H Q ok a k => by
  cases a with
  | cons r t =>
    cases t
    obtain ⟨p, ws, rfl, ha, u⟩ := r.here
    exact ⟨_, ws.length, rfl, .inr ⟨ws, .inl (.inl (ok.s _ _ ha)), rfl⟩, k _ F H ok.gr fun F' _ => by rw [u.here.len]; rfl⟩
theorem rc_lenTp {Rl : List (V → Hp → Prop)} {K : PySem.W.Frag} : RC pp (fun us H Q => ∃ x n, us = [x] ∧ LenV K x H n ∧ Q (.int n) H) [IsTp Rl] (IsI (Rl.length : Int)) := fun vs F H Q ok a k => by
  cases a with
  | cons r t =>
    cases t
    obtain ⟨p, ws, rfl, ha, u⟩ := r.here
    exact ⟨_, ws.length, rfl, .inr ⟨ws, .inl (.inl (ok.s _ _ ha)), rfl⟩, k _ F H ok.gr fun F' _ => by rw [Args.len u.here]; rfl⟩
theorem rc_lenS {α : Type} {Rx : α → V → Hp → Prop} {xs : List α} {K : PySem.W.Frag} : RC pp (fun us H Q => ∃ x n, us = [x] ∧ LenV K x H n ∧ Q (.int n) H) [IsSq Rx xs] (IsI (xs.length : Int)) := fun vs F H Q ok a k => by
  cases a with
  | cons r t =>
    cases t
    rcases r.here with h | h
    · exact rc_len (K := K) (Rx := Rx) (xs := xs) [_] F H Q ok (.cons h.up .nil) k
    · exact rc_lenT (K := K) (Rx := Rx) (xs := xs) [_] F H Q ok (.cons h.up .nil) k
theorem rc_all {xs : List Bool} {K : PySem.W.Frag} : RC pp (rAll K) [IsL IsB xs] (IsB (xs.all id)) := fun vs F H Q ok a k => by
  cases a with
  | cons r t =>
    cases t
    obtain ⟨p, ws, rfl, ha, u⟩ := r.here
    have e := ls_bools u.here
    subst e
    exact ⟨p, xs, rfl, .inl (.inl (ok.s _ _ ha)), k _ F H ok.gr fun F' _ => rfl⟩
theorem rc_any {xs : List Bool} {K : PySem.W.Frag} : RC pp (rAny K) [IsL IsB xs] (IsB (xs.any id)) := fun vs F H Q ok a k => by
  cases a with
  | cons r t =>
    cases t
    obtain ⟨p, ws, rfl, ha, u⟩ := r.here
    have e := ls_bools u.here
    subst e
    exact ⟨p, xs, rfl, .inl (.inl (ok.s _ _ ha)), k _ F H ok.gr fun F' _ => rfl⟩
theorem rc_sum {xs : List Int} {K : PySem.W.Frag} : RC pp (rSum K) [IsL IsI xs] (IsI xs.sum) := fun vs F H Q ok a k => by
  cases a with
  | cons r t =>
    cases t
    obtain ⟨p, ws, rfl, ha, u⟩ := r.here
    have e := ls_ints u.here
    subst e
    exact ⟨p, xs, rfl, .inl (.inl (ok.s _ _ ha)), k _ F H ok.gr fun F' _ => rfl⟩
theorem rc_int {b : Bool} : RC pp (fun xs H Q => (∃ i, xs = [.int i] ∧ Q (.int i) H) ∨ ∃ k, xs = [.bl k] ∧ Q (.int (if k then 1 else 0)) H) [IsB b] (IsI (if b then 1 else 0)) := fun vs F H Q ok a k => by
  cases a with
  | cons r t =>
    cases t
    exact .inr ⟨b, by rw [r.here], k _ F H ok.gr fun F' _ => rfl⟩
theorem rc_intI {i : Int} : RC pp (fun xs H Q => (∃ i, xs = [.int i] ∧ Q (.int i) H) ∨ ∃ k, xs = [.bl k] ∧ Q (.int (if k then 1 else 0)) H) [IsI i] (IsI i) := fun vs F H Q ok a k => by
  cases a with
  | cons r t =>
    cases t
    exact .inl ⟨i, by rw [r.here], k _ F H ok.gr fun F' _ => rfl⟩
theorem rc_abs {i : Int} : RC pp (fun xs H Q => ∃ i, xs = [.int i] ∧ Q (.int (if i < 0 then -i else i)) H) [IsI i] (IsI (if i < 0 then -i else i)) := fun vs F H Q ok a k => by
  cases a with
  | cons r t =>
    cases t
    exact ⟨i, by rw [r.here], k _ F H ok.gr fun F' _ => rfl⟩
theorem rc_max2 {i j : Int} : RC pp (fun xs H Q => ∃ i j, xs = [.int i, .int j] ∧ Q (.int (if j > i then j else i)) H) [IsI i, IsI j] (IsI (if j > i then j else i)) := fun vs F H Q ok a k => by
  cases a with
  | cons r t =>
    cases t with
    | cons r2 t2 =>
      cases t2
      exact ⟨i, j, by rw [r.here, r2.here], k _ F H ok.gr fun F' _ => rfl⟩
theorem rc_gcd {i j : Int} : RC pp rGcd [IsI i, IsI j] (IsI ((Nat.gcd i.natAbs j.natAbs : Nat) : Int)) := fun vs F H Q ok a k => by
  cases a with
  | cons r t =>
    cases t with
    | cons r2 t2 =>
      cases t2
      exact ⟨i, j, by rw [r.here, r2.here], k _ F H ok.gr fun F' _ => rfl⟩
/-- lcm below 13,000 bits -/
def rLcm : List V → Hp → VK → Prop := fun vs H Q => ∃ a b : Int, vs = [.int a, .int b] ∧ (max 1 a.natAbs).log2 < 13000 ∧ (max a.natAbs b.natAbs).log2 < 13000 ∧ (Nat.lcm a.natAbs b.natAbs).log2 < 100000 ∧ Q (.int ((Nat.lcm a.natAbs b.natAbs : Nat) : Int)) H
theorem cr_lcm : CallR X (.builtin "math.lcm") rLcm := by
  intro pins s σ H vs us Q I r h
  obtain ⟨a, b, rfl, h1, h2, h3, q⟩ := h
  obtain ⟨t, u, rfl⟩ := Vals.int2 r
  have e1 : (Nat.lcm 1 a.natAbs).lcm b.natAbs = Nat.lcm a.natAbs b.natAbs := by rw [Nat.lcm_one_left]
  have hb : bitsLine = 134217728 := by decide
  have z := PySem.W.mg_run_lcm a t b u (by omega) (by omega) (by
    show (((Nat.lcm 1 a.natAbs).lcm b.natAbs : Nat) : Int).natAbs.log2 < bitsLine
    rw [e1, Int.natAbs_natCast, hb]
    omega)
  rw [e1] at z
  exact PySem.call_function_meets PySem.W.MGF.kind_lcm PySem.W.MGF.plain_lcm PySem.W.MGF.entry_lcm (PySem.W.MGF.args_lcm _ _) z.meets ⟨.int _, H, I.tok _, ⟨_, rfl⟩, q⟩
theorem rc_lcm {i j : Int} (h1 : (max 1 i.natAbs).log2 < 13000) (h2 : (max i.natAbs j.natAbs).log2 < 13000) (h3 : (Nat.lcm i.natAbs j.natAbs).log2 < 100000) : RC pp rLcm [IsI i, IsI j] (IsI ((Nat.lcm i.natAbs j.natAbs : Nat) : Int)) := fun vs F H Q ok a k => by
  cases a with
  | cons r t =>
    cases t with
    | cons r2 t2 =>
      cases t2
      exact ⟨i, j, by rw [r.here, r2.here], h1, h2, h3, k _ F H ok.gr fun F' _ => rfl⟩
theorem rc_tuple {α : Type} {Rx : α → V → Hp → Prop} {xs : List α} {K : PySem.W.Frag} : RC pp (fun us H Q => ∃ p ys, us = [.ref p] ∧ ((SqL K H p ys ∧ ∀ l, H l = none → Q (.ref l) (upd H l (.tup ys))) ∨ (SqT K H p ys ∧ Q (.ref p) H))) [IsL Rx xs] (IsTs Rx xs) := fun vs F H Q ok a k => by
  cases a with
  | cons r t =>
    cases t
    obtain ⟨p, ws, rfl, ha, u⟩ := r.here
    refine ⟨p, ws, rfl, .inl ⟨.inl (.inl (ok.s _ _ ha)), fun l hl => k _ _ _ (Gr.new ok hl) (TupOf.up ⟨l, ws, rfl, upd_same, u.mono (Ex.new (ok.s.back hl))⟩)⟩⟩
theorem jm_listRg {n : Nat} (p : PE X e (tLstRg (tRg1 (tE E G (IsI (n : Int)))))) (hn : n ≤ 100000) : PE X e (tM E G (LsOf IsI (upTo n))) := PE_imp p fun σ H Q ⟨F, S, k⟩ =>
  ⟨F, S, fun v F1 H1 g1 u1 => ⟨n, u1.here, RgOk.of_le (by omega) (by omega) (by omega) (by omega), fun q hq => k q _ F1 _ (g1.trans (Gr.raw g1.ok hq)) (g1.back hq) (g1.s.back hq) upd_same fun F' _ => by
    have all : ∀ l : List Nat, LsOf IsI (l.map fun (i : Nat) => (i : Int)) (l.map fun (i : Nat) => V.int (0 + (i : Int))) F' := fun l => by
      induction l with
      | nil => exact Paired.nil
      | cons x l ih => exact Paired.cons (fun _ _ => by show V.int (0 + (x : Int)) = V.int (x : Int); rw [Int.zero_add]) ih
    show LsOf IsI ((List.range n).map fun (i : Nat) => (i : Int)) ((List.range ((n : Int) - 0).toNat).map fun i => V.int (0 + (i : Nat))) F'
    rw [Int.sub_zero, Int.toNat_natCast]
    exact all _⟩⟩
end
end Gw
set_option maxHeartbeats 4000000
namespace PySem
open Sem (wp)
open Builtin
/-! an int's operator declines an instance -/
theorem gw_int_mul_inst (a : Int) (t : Tok) (l C dx : Addr) :
    Meets (Builtin.«int.__mul__» ⟨[.int a t, .ref l], []⟩) (fun _ R s => s.heap.get? l = some { cls := .ref C, dict := some dx, data := .plain, slots := #[] } ∧ R (.ok (.ret Value.notImplemented)) s) :=
  .of_wp fun prog w A R s h => by obtain ⟨hp, g, d, tk, os⟩ := s; obtain ⟨hl, h⟩ := h; wp_walk; exact ⟨_, rfl, h⟩
theorem gw_int_add_inst (a : Int) (t : Tok) (l C dx : Addr) :
    Meets (Builtin.«int.__add__» ⟨[.int a t, .ref l], []⟩) (fun _ R s => s.heap.get? l = some { cls := .ref C, dict := some dx, data := .plain, slots := #[] } ∧ R (.ok (.ret Value.notImplemented)) s) :=
  .of_wp fun prog w A R s h => by obtain ⟨hp, g, d, tk, os⟩ := s; obtain ⟨hl, h⟩ := h; wp_walk; exact ⟨_, rfl, h⟩
theorem gw_int_sub_inst (a : Int) (t : Tok) (l C dx : Addr) :
    Meets (Builtin.«int.__sub__» ⟨[.int a t, .ref l], []⟩) (fun _ R s => s.heap.get? l = some { cls := .ref C, dict := some dx, data := .plain, slots := #[] } ∧ R (.ok (.ret Value.notImplemented)) s) :=
  .of_wp fun prog w A R s h => by obtain ⟨hp, g, d, tk, os⟩ := s; obtain ⟨hl, h⟩ := h; wp_walk; exact ⟨_, rfl, h⟩
end PySem

namespace PySem.W
open Lean Elab Tactic Meta PySem PySem.Calls PyProof.Rows
section
variable {prog : Program} {w : World} {A : Around} {E : Value → Shared → Prop} {s : Shared} {K : Frag} {b C L f f0 : Addr} {h₀ : Heap} {m : Str → Option Value} {ox : Obj} {od : Option Obj}
/-- an int, an operator, an instance whose class has the reflected method -/
theorem gw_rbin {op : Operator} {i : Int} {t : Tok} {Q : Value → Shared → Prop} (F : Fr h₀ L s.heap m) (X₀ : K.In h₀) (I : InstAt s.heap b ox C od) (hc : selfFirst K C = true)
    (hs : findIn K (.ref C) (PySem.dunder op.info.2) = some (some (.ref f0))) (hr : findIn K (.ref C) (dunderR op.info.2) = some (some (.ref f))) (hf : isFn K (.ref f) = true) (hsub : subIn K (.ref C) (.type "int") = some false)
    (hfi : fillsNumberSlot (.type "int") op.info.2 = pure true) (hdec : wpAny (model prog w) A (tryMethod (.int i t) (PySem.dunder op.info.2) (.ref b)) (fun r s' => r = none ∧ s' = s) E s)
    (h : wpAny (model prog w) A (call (.ref f) [.ref b, .int i t]) (CmpBack Q) E s) : wpAny (model prog w) A (binaryOp op (.int i t) (.ref b)) Q E s := by
  have X := X₀.keeps F.keep
  obtain ⟨cd, rest, hcd, hm⟩ := ksp_first hc
  rcases hi : op.info with ⟨sym, nm'⟩
  rw [hi] at hs hr hfi hdec
  dsimp only at hs hr hfi hdec
  have one := ksp_try X I hr hf h
  obtain ⟨hh, g, d, tt, os⟩ := s
  have L1 : Looks (model prog w) hh (typeOf (.int i t)) (.type "int") := Looks.of_pure rfl
  have L2 : Looks (model prog w) hh (typeOf (.ref b)) (.ref C) := I.type
  have L3 : Looks (model prog w) hh (fillsNumberSlot (.type "int") nm') true := Looks.of_pure hfi
  have L4 : Looks (model prog w) hh (fillsNumberSlot (.ref C) nm') true := fills_K X hcd hm hs
  have L5 : Looks (model prog w) hh (isSubtype (.ref C) (.type "int")) false := looks_subIn X hsub
  have L7 : Looks (model prog w) hh (numberSlotInPython (.type "int") nm') false := Looks.of_pure rfl
  have hne : (Value.type "int" == Value.ref C) = false := Bool.eq_false_iff.mpr fun q => by cases beq_iff_eq.mp q
  simp only [binaryOp, hi]
  refine wpAny_holding (wpAny_bind ?_)
  unfold binaryOp1
  refine wpAny_bind (L1.at (wpAny_bind (L2.at (wpAny_bind (L3.at ?_)))))
  simp only [hne, Bool.false_eq_true, if_false]
  ksp_lk
  refine wpAny_mono hdec (fun r s' hr' => ?_) fun _ _ e => e
  obtain ⟨rfl, rfl⟩ := hr'
  ksp_lk
  refine wpAny_mono one (fun r s' hr' => ?_) fun _ _ e => e
  obtain ⟨v, rfl, hq⟩ := hr'
  ksp_lk
  exact hq
/-- != of two instances of a class with an own ==, object's != -/
theorem gw_ne {x y : Addr} {oy : Obj} {oyd : Option Obj} {Q : Value → Shared → Prop} (hu : A.units + 1 < cLine) (Fr0 : Fr h₀ L s.heap m) (X₀ : K.In h₀) (I : InstAt s.heap x ox C od) (J : InstAt s.heap y oy C oyd)
    (hs : findIn K (.ref C) "__eq__" = some (some (.ref f))) (hf : isFn K (.ref f) = true) (hne : findIn K (.ref C) "__ne__" = some (some (.builtin "object.__ne__"))) (hob : subIn K (.ref C) (.type "object") = some true)
    (h : wpAny (model prog w) A.in1 (call (.ref f) [.ref x, .ref y]) (fun v s' => ∃ b, v = .bool b ∧ Q (.bool (!b)) s') E s) : wpAny (model prog w) A (richCompare .NotEq (.ref x) (.ref y)) Q E s := by
  have X := X₀.keeps Fr0.keep
  have body : wpAny (model prog w) A.in1 (Builtin.«object.__ne__» ⟨[.ref x, .ref y], []⟩) (fun fin s' => ∃ b, fin = .done (.ret (.bool (!b))) ∧ Q (.bool (!b)) s') E s := by
    unfold Builtin.«object.__ne__»
    repeat (first
      | with_reducible refine wpAny_cRoomFor (by show A.in1.units < cLine; exact hu) ?_
      | (refine wpAny_bind (m := callSpecialIfBound? (.ref x) (Str.ofString "__eq__") [.ref y])
          (ifBound_K X I hs hf (wpAny_mono h (fun r s' hr => by
            obtain ⟨b, rfl, hq⟩ := hr
            repeat (first | exact ⟨b, rfl, hq⟩ | exact wpAny_truthy_bool (wpAny_pure ⟨b, rfl, hq⟩) | (refine wpAny_bind (m := truthy (.bool _)) (wpAny_truthy_bool ?_)) | wp_step)) fun _ _ e => e)))
      | wp_step)
  have hbind : ∀ self : Value, bindSpecial (.builtin "object.__ne__") self = pure (.builtin "object.__ne__", [self]) := fun self => F.slot_object_ne.bind self
  have call1 : wpAny (model prog w) A (call (.builtin "object.__ne__") [.ref x, .ref y]) (fun v s' => ∃ b, v = .bool (!b) ∧ Q (.bool (!b)) s') E s := by
    refine wpAny_call (codeAny_call_builtin F.slot_object_ne.plain F.cmpEntry_ne ?_)
    simp only [checkBuiltinCall, F.cmpKind_ne, F.cmpSplit_ne]
    refine wpAny_bind ?_
    unfold isInstance
    have hx : s.heap.get? x = some ox := I.at_
    have hc : ox.cls = .ref C := I.cls
    refine wpAny_bind (wpAny_bind (wpAny_loadPart hx (wpAny_pure ?_)))
    rw [hc]
    refine (looks_subIn X hob).here ?_
    have fin : ∀ s' : Shared, s' = s → wpAny (model prog w) A.in1 (Builtin.«object.__ne__» ⟨[.ref x, .ref y], []⟩) (fun fin s' => match fin with | .done f => wants (fun v s' => ∃ b, v = .bool (!b) ∧ Q (.bool (!b)) s') E (.ok f) s' | .again c' => c'.quiet = true ∧ codeAny (model prog w) A c' (wants (fun v s' => ∃ b, v = .bool (!b) ∧ Q (.bool (!b)) s') E) s') (fun e s' => wants (fun v s' => ∃ b, v = .bool (!b) ∧ Q (.bool (!b)) s') E (.error e) s') s' := fun s' e => by
      subst e
      refine wpAny_mono body (fun r s2 hr => ?_) fun _ _ z => z
      obtain ⟨b, rfl, hq⟩ := hr
      exact ⟨b, rfl, hq⟩
    have ha := F.cmpArgs_ne (.ref x) (.ref y)
    show wpAny _ _ (if (!true) = true then _ else _) _ _ _
    rw [if_neg (by decide)]
    cases hsig : Manifest.signature? "object.__ne__" with
    | none => exact wpAny_pure (fin s rfl)
    | some sig =>
      simp only [argsOk, hsig] at ha
      have h2 : Bind.checkArgs "object.__ne__" sig ⟨[.ref x, .ref y], []⟩ = pure () := ha
      show wpAny _ _ (Bind.checkArgs "object.__ne__" sig ⟨[.ref x, .ref y], []⟩) _ _ _
      rw [h2]
      exact wpAny_pure (fin s rfl)
  have try1 : wpAny (model prog w) A (tryCompare (.ref x) "__ne__" (.ref y)) (fun r s' => ∃ b, r = some (.bool (!b)) ∧ Q (.bool (!b)) s') E s := by
    unfold tryCompare
    simp only [callSpecialIfBound?, bindSpecialIfBound?]
    refine wpAny_bind (wpAny_holding (wpAny_bind (wpAny_bind (wpAny_bind (I.type.here ((looks_findIn X hne).here ?_))))))
    simp only [hbind]
    refine wpAny_bind (wpAny_askSetting (wpAny_ite ?_))
    have fin : wpAny (model prog w) A (call (.builtin "object.__ne__") ([.ref x] ++ [.ref y]) >>= fun v => pure (some v)) (fun r s' => wpAny (model prog w) A (match r with | some .notImplemented => pure none | none => pure none | some v => pure (some v)) (fun r s' => ∃ b, r = some (.bool (!b)) ∧ Q (.bool (!b)) s') E s') E s :=
      wpAny_bind (wpAny_mono call1 (fun v s' ⟨b, e, hq⟩ => by subst e; exact wpAny_pure (wpAny_pure ⟨b, rfl, hq⟩)) fun _ _ z => z)
    split
    · exact wpAny_bind (wpAny_pure (wpAny_pure fin))
    · exact wpAny_tryCatch (wpAny_bind (wpAny_pure (wpAny_pure fin)))
  unfold richCompare
  simp only [oneThing_ref]
  refine wpAny_holding (wpAny_bind (wpAny_cRoomFor (Nat.lt_of_succ_lt hu) ?_))
  rw [cmpInfo_NotEq]
  dsimp only
  refine wpAny_bind (I.type.here (wpAny_bind (J.type.here ?_)))
  rw [show (Value.ref C != Value.ref C) = false from by simp]
  simp only [Bool.false_eq_true, if_false]
  refine wpAny_bind (wpAny_pure ?_)
  simp only [Bool.false_eq_true, if_false]
  refine wpAny_bind (wpAny_mono try1 (fun r s' hr => ?_) fun _ _ e => e)
  obtain ⟨b, rfl, hq⟩ := hr
  first | exact wpAny_pure hq | exact wpAny_pure (wpAny_pure hq)
end
end PySem.W
set_option maxHeartbeats 4000000
namespace Gw
open PySem PySem.Spec PyProof.Rows L2

/-! ### own operators on the layer -/
section
variable {X : Cx} {k : Nat} {C f f0 : Addr} {fd : FuncData} {ps : List Str} {sp : Sp} {E' : XK} {op : Operator}
theorem pass00 : Passes CX0 X E' := fun _ _ _ _ _ _ _ h => h.elim
def InsV (C : Addr) (v : V) (H : Hp) : Prop := ∃ a dx fs, v = .ref a ∧ H a = some (.ins C dx fs)
theorem cmpBack_of {pins : List (Addr × Obj)} {σ : L2.St} {Q : VK} {u : Value} {s' : Shared} (h : EP X pins σ Q u s') : PySem.W.CmpBack (EP X pins σ Q) u s' := by
  obtain ⟨v, H', I, r, q⟩ := h
  have h : EP X pins σ Q u s' := ⟨v, H', I, r, q⟩
  cases u with
  | notImplemented =>
    cases v with
    | non => cases (show Value.notImplemented = Value.none from r)
    | bl b => cases (show Value.notImplemented = Value.bool b from r)
    | int i => obtain ⟨t, e⟩ := (show ∃ t, Value.notImplemented = Value.int i t from r); cases e
    | str x => obtain ⟨t, e⟩ := (show ∃ t, Value.notImplemented = Value.str x t from r); cases e
    | byt b => obtain ⟨t, e⟩ := (show ∃ t, Value.notImplemented = Value.bytes b t from r); cases e
    | flt b => obtain ⟨t, e⟩ := (show ∃ t, Value.notImplemented = Value.float b t from r); cases e
    | ref a => cases (show Value.notImplemented = Value.ref a from r)
    | ty n => cases (show Value.notImplemented = Value.type n from r)
  | _ => exact h
structure OwnB (K : PySem.W.Frag) (C f : Addr) (op : Operator) : Prop where
  sf : PySem.W.selfFirst K C = true
  at_ : PySem.W.findIn K (.ref C) (PySem.dunder op.info.2) = some (some (.ref f))
  fn : PySem.W.isFn K (.ref f) = true
/-- .. with ints at either side -/
structure OwnI (K : PySem.W.Frag) (C f g : Addr) (op : Operator) : Prop extends OwnB K C f op where
  rat : PySem.W.findIn K (.ref C) (dunderR op.info.2) = some (some (.ref g))
  gn : PySem.W.isFn K (.ref g) = true
  i1 : ∃ fo, PySem.W.findIn K (.type "int") (PySem.dunder op.info.2) = some fo
  i2 : ∃ ro, PySem.W.findIn K (.type "int") (dunderR op.info.2) = some ro
  s1 : PySem.W.subIn K (.type "int") (.ref C) = some false
  s2 : PySem.W.subIn K (.ref C) (.type "int") = some false
def rOwn (C : Addr) (sp : Sp) (E' : XK) : R2 := fun x y H Q => InsV C x H ∧ InsV C y H ∧ sp [x, y] H Q E'
def rOwnI (C : Addr) (sp : Sp) (E' : XK) : R2 := fun x y H Q => InsV C x H ∧ (∃ i, y = .int i) ∧ sp [x, y] H Q E'
def rIOwn (C : Addr) (sp : Sp) (E' : XK) : R2 := fun x y H Q => (∃ i, x = .int i) ∧ InsV C y H ∧ sp [y, x] H Q E'
theorem ins_inst {pins : List (Addr × Obj)} {σ : L2.St} {H : Hp} {s : Shared} (I : Inv X pins σ H s) {a dx : Addr} {fs : List (Str × V)} (e : H a = some (.ins C dx fs)) : ∃ ox od, PySem.W.InstAt s.heap a ox C od := by
  obtain ⟨mA, J, _⟩ := ins_get I.hok e
  obtain ⟨od, J, _⟩ := J.look
  exact ⟨_, _, J⟩
theorem op_own (O : OwnB X.K C f op) (F : FnOk X.prog X.w X.K X.mg X.base CX0 k f fd ps sp) (hr : Room k X.A) (hb : Binds X.K fd ps []) : OpR X (binaryOp op) (rOwn C sp E') := by
  intro pins s σ H x y v u Q I rx ry h
  obtain ⟨⟨a, dx, fs, rfl, ea⟩, ⟨b, dy, gs, rfl, eb⟩, h⟩ := h
  cases rx
  cases ry
  obtain ⟨_, _, J⟩ := ins_inst I ea
  obtain ⟨_, _, J'⟩ := ins_inst I eb
  obtain ⟨m, hF⟩ := I.fr
  refine PySem.W.binop_K hF I.ok.mod.kin J J'.type O.sf O.at_ O.fn ?_
  exact wpAny_mono (run_fn (us := [.ref a, .ref b]) (vs := [.ref a, .ref b]) (ds := []) (dvs := []) F hr hb .nil (pass00 (E' := E')) I (.cons rfl (.cons rfl .nil)) (by rw [List.append_nil]; exact h)) (fun _ _ q => cmpBack_of q) fun _ _ q => q
theorem op_ownI {g : Addr} (O : OwnI X.K C f g op) (F : FnOk X.prog X.w X.K X.mg X.base CX0 k f fd ps sp) (hr : Room k X.A) (hb : Binds X.K fd ps []) : OpR X (binaryOp op) (rOwnI C sp E') := by
  intro pins s σ H x y v u Q I rx ry h
  obtain ⟨⟨a, dx, fs, rfl, ea⟩, ⟨i, rfl⟩, h⟩ := h
  cases rx
  obtain ⟨t, rfl⟩ := ry
  obtain ⟨_, _, J⟩ := ins_inst I ea
  obtain ⟨m, hF⟩ := I.fr
  obtain ⟨fo, h1⟩ := O.i1
  obtain ⟨ro, h2⟩ := O.i2
  refine PySem.W.ksp_binT hF I.ok.mod.kin J rfl O.sf O.at_ O.fn O.rat (.inr ⟨_, rfl⟩) h1 h2 O.s1 ?_
  exact wpAny_mono (run_fn (us := [.ref a, .int i t]) (vs := [.ref a, .int i]) (ds := []) (dvs := []) F hr hb .nil (pass00 (E' := E')) I (.cons rfl (.cons ⟨_, rfl⟩ .nil)) (by rw [List.append_nil]; exact h)) (fun _ _ q => cmpBack_of q) fun _ _ q => q
/-- the int's own operator declines -/
def Decl (op : Operator) : Prop := fillsNumberSlot (.type "int") op.info.2 = pure true ∧ ∀ (prog : Program) (w : World) (A : Around) (E : Value → Shared → Prop) (s : Shared) (i : Int) (t : Tok) (b C : Addr) (ox : Obj) (od : Option Obj), PySem.W.InstAt s.heap b ox C od →
  wpAny (model prog w) A (tryMethod (.int i t) (PySem.dunder op.info.2) (.ref b)) (fun r s' => r = none ∧ s' = s) E s
theorem inst_plain {h : Heap} {b C : Addr} {ox : Obj} {od : Option Obj} (J : PySem.W.InstAt h b ox C od) : ∃ dx, h.get? b = some { cls := .ref C, dict := dx, data := ox.data, slots := ox.slots } := by
  have h1 := J.at_
  have h2 := J.cls
  obtain ⟨c, d, dt, sl⟩ := ox
  simp only at h2
  subst h2
  exact ⟨_, h1⟩
theorem op_Iown {g : Addr} (O : OwnI X.K C f g op) (D : ∀ (A : Around) (E : Value → Shared → Prop) (s : Shared) (i : Int) (t : Tok) (b dx : Addr), s.heap.get? b = some (PySem.W.instObj C dx) →
      wpAny (model X.prog X.w) A (tryMethod (.int i t) (PySem.dunder op.info.2) (.ref b)) (fun r s' => r = none ∧ s' = s) E s) (hfi : fillsNumberSlot (.type "int") op.info.2 = pure true)
    (F : FnOk X.prog X.w X.K X.mg X.base CX0 k g fd ps sp) (hr : Room k X.A) (hb : Binds X.K fd ps []) : OpR X (binaryOp op) (rIOwn C sp E') := by
  intro pins s σ H x y v u Q I rx ry h
  obtain ⟨⟨i, rfl⟩, ⟨a, dx, fs, rfl, ea⟩, h⟩ := h
  cases ry
  obtain ⟨t, rfl⟩ := rx
  obtain ⟨_, _, J⟩ := ins_inst I ea
  obtain ⟨mA, OM, _⟩ := ins_get I.hok ea
  obtain ⟨m, hF⟩ := I.fr
  refine PySem.W.gw_rbin hF I.ok.mod.kin J O.sf O.at_ O.rat O.gn O.s2 hfi (D _ _ _ _ _ _ _ OM.obj) ?_
  exact wpAny_mono (run_fn (us := [.ref a, .int i t]) (vs := [.ref a, .int i]) (ds := []) (dvs := []) F hr hb .nil (pass00 (E' := E')) I (.cons rfl (.cons ⟨_, rfl⟩ .nil)) (by rw [List.append_nil]; exact h)) (fun _ _ q => cmpBack_of q) fun _ _ q => q
theorem decl_sub {prog : Program} {w : World} (A : Around) (E : Value → Shared → Prop) (s : Shared) (i : Int) (t : Tok) (b dx : Addr) (h : s.heap.get? b = some (PySem.W.instObj C dx)) :
    wpAny (model prog w) A (tryMethod (.int i t) (PySem.dunder (Operator.Sub).info.2) (.ref b)) (fun r s' => r = none ∧ s' = s) E s := by
  show wpAny (model prog w) A (tryMethod (.int i t) (PySem.dunder "sub") (.ref b)) (fun r s' => r = none ∧ s' = s) E s
  have m := gw_int_sub_inst i t b C dx
  have a := F.args_int_sub_2 (.int i t) (.ref b)
  have e := F.entry_int_sub
  have q1 := typeIs_int s i t
  have q3 := @wpAny_tryMethod_declines (model prog w) A E s (.int i t) (.ref b) "int" (dunder "sub") "int.__sub__" (fun r s' => r = none ∧ s' = s) q1 F.slot_int_sub
  refine q3 ?_
  have z := @call_meets prog w A E s
  have z2 := z (self := .int i t) (rest := [.ref b]) (Q := fun v s' => v = .notImplemented ∧ none = (none : Option Value) ∧ s' = s) F.slot_int_sub q1 e a m
  exact z2 ⟨h, rfl, rfl, rfl⟩
theorem decl_mul {prog : Program} {w : World} (A : Around) (E : Value → Shared → Prop) (s : Shared) (i : Int) (t : Tok) (b dx : Addr) (h : s.heap.get? b = some (PySem.W.instObj C dx)) :
    wpAny (model prog w) A (tryMethod (.int i t) (PySem.dunder (Operator.Mult).info.2) (.ref b)) (fun r s' => r = none ∧ s' = s) E s := by
  show wpAny (model prog w) A (tryMethod (.int i t) (PySem.dunder "mul") (.ref b)) (fun r s' => r = none ∧ s' = s) E s
  have m := gw_int_mul_inst i t b C dx
  have a := F.args_int_mul_2 (.int i t) (.ref b)
  have e := F.entry_int_mul
  have q1 := typeIs_int s i t
  have q3 := @wpAny_tryMethod_declines (model prog w) A E s (.int i t) (.ref b) "int" (dunder "mul") "int.__mul__" (fun r s' => r = none ∧ s' = s) q1 F.slot_int_mul
  refine q3 ?_
  have z := @call_meets prog w A E s
  have z2 := z (self := .int i t) (rest := [.ref b]) (Q := fun v s' => v = .notImplemented ∧ none = (none : Option Value) ∧ s' = s) F.slot_int_mul q1 e a m
  exact z2 ⟨h, rfl, rfl, rfl⟩
theorem decl_add {prog : Program} {w : World} (A : Around) (E : Value → Shared → Prop) (s : Shared) (i : Int) (t : Tok) (b dx : Addr) (h : s.heap.get? b = some (PySem.W.instObj C dx)) :
    wpAny (model prog w) A (tryMethod (.int i t) (PySem.dunder (Operator.Add).info.2) (.ref b)) (fun r s' => r = none ∧ s' = s) E s := by
  show wpAny (model prog w) A (tryMethod (.int i t) (PySem.dunder "add") (.ref b)) (fun r s' => r = none ∧ s' = s) E s
  have m := gw_int_add_inst i t b C dx
  have a := F.args_int_add_2 (.int i t) (.ref b)
  have e := F.entry_int_add
  have q1 := typeIs_int s i t
  have q3 := @wpAny_tryMethod_declines (model prog w) A E s (.int i t) (.ref b) "int" (dunder "add") "int.__add__" (fun r s' => r = none ∧ s' = s) q1 F.slot_int_add
  refine q3 ?_
  have z := @call_meets prog w A E s
  have z2 := z (self := .int i t) (rest := [.ref b]) (Q := fun v s' => v = .notImplemented ∧ none = (none : Option Value) ∧ s' = s) F.slot_int_add q1 e a m
  exact z2 ⟨h, rfl, rfl, rfl⟩
/-- x == y of two instances, by the own == -/
theorem op_eqOwn (hs : PySem.W.findIn X.K (.ref C) "__eq__" = some (some (.ref f))) (hf : PySem.W.isFn X.K (.ref f) = true) (F : FnOk X.prog X.w X.K X.mg X.base CX0 k f fd ps sp) (hr : Room k X.A) (hb : Binds X.K fd ps []) : OpR X (compareOp .Eq) (rOwn C sp E') := by
  intro pins s σ H x y v u Q I rx ry h
  obtain ⟨⟨a, dx, fs, rfl, ea⟩, ⟨b, dy, gs, rfl, eb⟩, h⟩ := h
  cases rx
  cases ry
  obtain ⟨_, _, J⟩ := ins_inst I ea
  obtain ⟨_, _, J'⟩ := ins_inst I eb
  obtain ⟨m, hF⟩ := I.fr
  show wpAny (model X.prog X.w) X.A (richCompare .Eq _ _) (EP X pins σ Q) X.xe s
  refine PySem.W.cmp_K (op := .Eq) (tb := .ref C) hr.units0 hF I.ok.mod.kin J J'.type (by simp [PySem.W.notFirst]) hs hf ?_
  exact wpAny_mono (run_fn (us := [.ref a, .ref b]) (vs := [.ref a, .ref b]) (ds := []) (dvs := []) F hr hb .nil (pass00 (E' := E')) I (.cons rfl (.cons rfl .nil)) (by rw [List.append_nil]; exact h)) (fun _ _ q => cmpBack_of q) fun _ _ q => q
def rOwnN (C : Addr) (sp : Sp) (E' : XK) : R2 := fun x y H Q => InsV C x H ∧ InsV C y H ∧ sp [x, y] H (fun v H' => ∃ b, v = .bl b ∧ Q (.bl (!b)) H') E'
theorem op_neOwn (hs : PySem.W.findIn X.K (.ref C) "__eq__" = some (some (.ref f))) (hf : PySem.W.isFn X.K (.ref f) = true) (hne : PySem.W.findIn X.K (.ref C) "__ne__" = some (some (.builtin "object.__ne__"))) (hob : PySem.W.subIn X.K (.ref C) (.type "object") = some true)
    (F : FnOk X.prog X.w X.K X.mg X.base CX0 k f fd ps sp) (hr : Room (k + 1) X.A) (hb : Binds X.K fd ps []) : OpR X (compareOp .NotEq) (rOwnN C sp E') := by
  intro pins s σ H x y v u Q I rx ry h
  obtain ⟨⟨a, dx, fs, rfl, ea⟩, ⟨b, dy, gs, rfl, eb⟩, h⟩ := h
  cases rx
  cases ry
  obtain ⟨_, _, J⟩ := ins_inst I ea
  obtain ⟨_, _, J'⟩ := ins_inst I eb
  obtain ⟨m, hF⟩ := I.fr
  show wpAny (model X.prog X.w) X.A (richCompare .NotEq _ _) (EP X pins σ Q) X.xe s
  refine PySem.W.gw_ne (by have := hr.un; omega) hF I.ok.mod.kin J J' hs hf hne hob ?_
  have r2 : Vals [V.ref a, V.ref b] [Value.ref a, Value.ref b] := .cons rfl (.cons rfl .nil)
  have hl : ([Value.ref a, Value.ref b] ++ []).length = ps.length := by
    rw [← F.len _ _ _ _ h]
    rfl
  refine wpAny_call (codeAny_mono (F.run X.A.in1 X.stack s H ⟨[.ref a, .ref b], []⟩ [.ref a, .ref b] [.ref a, .ref b] _ E' hr.in1 I.env0.in1 (by
    have := hb s [.ref a, .ref b] I.kIn hl
    rwa [List.append_nil] at this) r2 h) fun r s' hq => ?_)
  cases r with
  | error er => exact False.elim hq
  | ok fl =>
    cases fl with
    | ret w =>
      obtain ⟨z, H', I', rz, b', ez, q⟩ := I.after hq
      subst ez
      cases (show w = Value.bool b' from rz)
      exact ⟨b', rfl, .bl (!b'), H', I', rfl, q⟩
    | next => exact False.elim hq
    | brk => exact False.elim hq
    | cont => exact False.elim hq
end
end Gw
set_option maxHeartbeats 4000000
namespace Gw
open PySem PySem.Spec PyProof.Rows L2

/-! ### the kinds of Ratios -/
def kTop : Str := "own_top"
def kBot : Str := "own_bottom"
def qFs (q : Rat) : List (Str × V) := [(kTop, .int q.num), (kBot, .int (q.den : Int))]
def IsQ (C : Addr) (q : Rat) (v : V) (F : Hp) : Prop := ∃ a dx, v = .ref a ∧ F a = some (.ins C dx (qFs q))
def IsNm (C : Addr) (q : Rat) (v : V) (F : Hp) : Prop := IsQ C q v F ∨ ∃ i : Int, q = (i : Rat) ∧ v = .int i
def IsC (c v : V) (_ : Hp) : Prop := v = c
theorem IsQ.mono {C : Addr} {q : Rat} {v : V} {F F' : Hp} (h : IsQ C q v F) (e : Ex F F') : IsQ C q v F' := let ⟨a, dx, h1, h2⟩ := h; ⟨a, dx, h1, e _ _ h2⟩
theorem IsQ.up {C : Addr} {q : Rat} {v : V} {F : Hp} (h : IsQ C q v F) : Up (IsQ C q) v F := fun _ e => h.mono e
theorem IsNm.mono {C : Addr} {q : Rat} {v : V} {F F' : Hp} (h : IsNm C q v F) (e : Ex F F') : IsNm C q v F' := h.elim (fun h => .inl (h.mono e)) .inr
theorem IsNm.up {C : Addr} {q : Rat} {v : V} {F : Hp} (h : IsNm C q v F) : Up (IsNm C q) v F := fun _ e => h.mono e
theorem IsQ.insV {C : Addr} {q : Rat} {v : V} {F H : Hp} (h : IsQ C q v F) (e : Ex F H) : InsV C v H := let ⟨a, dx, h1, h2⟩ := h; ⟨a, dx, _, h1, e _ _ h2⟩
theorem isQ_nm {C : Addr} {q : Rat} : ∀ v F, IsQ C q v F → IsNm C q v F := fun _ _ h => .inl h
theorem isI_nm {C : Addr} {i : Int} : ∀ v F, IsI i v F → IsNm C (i : Rat) v F := fun _ _ h => .inr ⟨i, rfl, h⟩
/-- what of the text class Ratio has -/
structure RatF (K : PySem.W.Frag) (C : Addr) : Prop where
  cls : Cls K C
  nt : NoAttr K C kTop
  nb : NoAttr K C kBot
  kc : PySem.W.findIn K (.ref C) "__class__" = some (some (.builtin "object.__class__"))
  kg : PySem.W.specialIn K (.builtin "object.__class__") "__get__" = some (some (.builtin "getset_descriptor.__get__"))
  kt : PySem.W.takesIn K (.builtin "object.__class__") = some true
  km : PySem.W.mroIn K C (.type "object") = some true
  oo : PySem.W.kitOne K (.ref C) (.ref C) = some true
  io : PySem.W.kitOne K (.type "int") (.ref C) = some false
  oi : PySem.W.kitOne K (.ref C) (.type "int") = some false
section
variable {X : Cx} {E : En} {G : List Sl} {e o a b c : Expr} {R R' Ra Rb Rz : V → Hp → Prop} {pos : Pos} {C : Addr} {q r : Rat} {pp : Option Addr} {E' : XK} {K : PySem.W.Frag}
/-! ### fields -/
theorem je_top (T : RatF X.K C) (p : PE X e (tE E G (IsQ C q))) (hb : attributeBase e kTop X.env (eval e X.env) = eval e X.env := by rfl) : PE X (.Attribute e kTop pos) (tE E G (IsI q.num)) :=
  PE_imp (pe_fld p hb) fun σ H Q ⟨F, S, k⟩ => ⟨F, S, fun v F1 H1 g1 u1 => by
    obtain ⟨a, dx, rfl, ha⟩ := u1.here
    exact ⟨a, C, dx, _, .int q.num, rfl, g1.s _ _ ha, T.cls, T.nt, rfl, k _ F1 H1 g1 fun _ _ => rfl⟩⟩
theorem je_bot (T : RatF X.K C) (p : PE X e (tE E G (IsQ C q))) (hb : attributeBase e kBot X.env (eval e X.env) = eval e X.env := by rfl) : PE X (.Attribute e kBot pos) (tE E G (IsI (q.den : Int))) :=
  PE_imp (pe_fld p hb) fun σ H Q ⟨F, S, k⟩ => ⟨F, S, fun v F1 H1 g1 u1 => by
    obtain ⟨a, dx, rfl, ha⟩ := u1.here
    exact ⟨a, C, dx, _, .int (q.den : Int), rfl, g1.s _ _ ha, T.cls, T.nb, rfl, k _ F1 H1 g1 fun _ _ => rfl⟩⟩
/-! ### isinstance -/
theorem tyx_int {i : Int} {H : Hp} : TyX K H (.int i) (.type "int") := .base (.int i)
theorem tyx_Q (T : RatF K C) {v : V} {F H : Hp} (h : IsQ C q v F) (e : Ex F H) : TyX K H v (.ref C) := by
  obtain ⟨a, dx, rfl, ha⟩ := h
  exact .base (.ins (e _ _ ha) T.cls T.kc T.kg T.kt T.km)
/-- isinstance(x, c) of one class -/
theorem rc_isi {b : Bool} {t u : Value} {c : V} (hc : ClsV c u) (hk : PySem.W.kitOne K t u = some b) (hty : ∀ v F H, Ex F H → R v F → TyX K H v t) : RC pp (rIsi K) [R, IsC c] (IsB b) := fun vs F H Q ok a k => by
  cases a with
  | cons r t =>
    cases t with
    | cons r2 t2 =>
      cases t2
      have e : _ = c := r2.here
      subst e
      exact ⟨_, _, _, _, b, rfl, hc, hty _ F H ok.s r.here, hk, k _ F H ok.gr fun F' _ => rfl⟩
/-- isinstance(x, (c, d)), of a list or tuple -/
theorem rc_isiT {b : Bool} {t : Value} {cs : List V} {us : List Value} (hc : Paired ClsV cs us) (hk : PySem.W.kitAny K t us = some b) (hty : ∀ v F H, Ex F H → R v F → TyX K H v t) (hl : cs.map IsC = Rz' := by rfl) : RC pp (rIsiT K) [R, TupOf (Args Rz')] (IsB b) := fun vs F H Q ok a k => by
  subst hl
  cases a with
  | cons r t =>
    cases t with
    | cons r2 t2 =>
      cases t2
      obtain ⟨p, ws, rfl, hp, uw⟩ := r2.here
      have e : ws = cs := by
        have all : ∀ {cs ws : List V}, Paired (fun R v => Up R v F) (cs.map IsC) ws → ws = cs := by
          intro cs
          induction cs with
          | nil => intro ws h; cases h; rfl
          | cons c cs ih =>
            intro ws h
            cases h with
            | cons h1 h2 => rw [ih h2, show _ = c from h1.here]
        exact all uw.here
      subst e
      exact ⟨_, p, ws, _, us, b, rfl, ok.s _ _ hp, hc, hty _ F H ok.s r.here, hk, k _ F H ok.gr fun F' _ => rfl⟩
/-! ### own operators, kinds -/
variable {pre : Rat × Rat → Prop} {Rf : Rat × Rat → V → Hp → Prop}
abbrev qA (C : Addr) : Rat × Rat → List (V → Hp → Prop) := fun w => [IsQ C w.1, IsNm C w.2]
theorem rop_own (hp : pre (q, r)) : ROp pp (rOwn C (Pr (qA C) pre Rf) E') (IsQ C q) (IsQ C r) (Rf (q, r)) := fun x y F H Q ok u1 u2 k =>
  ⟨u1.here.insV ok.s, u2.here.insV ok.s, F, (q, r), ok.none, .cons u1 (.cons (u2.imp fun F h => .inl h) .nil), hp, fun v F' H' g u => k v F' H' (g.lift ok) u⟩
theorem rop_ownI {i : Int} (hp : pre (q, (i : Rat))) : ROp pp (rOwnI C (Pr (qA C) pre Rf) E') (IsQ C q) (IsI i) (Rf (q, (i : Rat))) := fun x y F H Q ok u1 u2 k =>
  ⟨u1.here.insV ok.s, ⟨i, u2.here⟩, F, (q, (i : Rat)), ok.none, .cons u1 (.cons (u2.imp fun F h => .inr ⟨i, rfl, h⟩) .nil), hp, fun v F' H' g u => k v F' H' (g.lift ok) u⟩
theorem rop_Iown {i : Int} (hp : pre (q, (i : Rat))) : ROp pp (rIOwn C (Pr (qA C) pre Rf) E') (IsI i) (IsQ C q) (Rf (q, (i : Rat))) := fun x y F H Q ok u1 u2 k =>
  ⟨⟨i, u1.here⟩, u2.here.insV ok.s, F, (q, (i : Rat)), ok.none, .cons u2 (.cons (u1.imp fun F h => .inr ⟨i, rfl, h⟩) .nil), hp, fun v F' H' g u => k v F' H' (g.lift ok) u⟩
abbrev qE (C : Addr) : Rat × Rat → List (V → Hp → Prop) := fun w => [IsQ C w.1, IsQ C w.2]
theorem rop_eqQ : ROp pp (rOwn C (Pr (qE C) (fun _ => True) fun w => IsB (decide (w.1 = w.2))) E') (IsQ C q) (IsQ C r) (IsB (decide (q = r))) := fun x y F H Q ok u1 u2 k =>
  ⟨u1.here.insV ok.s, u2.here.insV ok.s, F, (q, r), ok.none, .cons u1 (.cons u2 .nil), trivial, fun v F' H' g u => k v F' H' (g.lift ok) u⟩
theorem rop_neQ : ROp pp (rOwnN C (Pr (qE C) (fun _ => True) fun w => IsB (decide (w.1 = w.2))) E') (IsQ C q) (IsQ C r) (IsB (!decide (q = r))) := fun x y F H Q ok u1 u2 k =>
  ⟨u1.here.insV ok.s, u2.here.insV ok.s, F, (q, r), ok.none, .cons u1 (.cons u2 .nil), trivial, fun v F' H' g u => ⟨_, u.here, k _ F' H' (g.lift ok) fun _ _ => rfl⟩⟩
/-- an operation by two roads -/
theorem opR_or {f : Value → Value → Sem Value} {r1 r2 : R2} (h1 : OpR X f r1) (h2 : OpR X f r2) : OpR X f (fun x y H Q => r1 x y H Q ∨ r2 x y H Q) := fun pins s σ H x y v u Q I rx ry h => h.elim (h1 pins s σ H x y v u Q I rx ry) (h2 pins s σ H x y v u Q I rx ry)
/-! ### properties, methods, classmethods -/
variable {ι : Type} {Rs : ι → List (V → Hp → Prop)} {pr : ι → Prop} {Rg : ι → V → Hp → Prop}
theorem je_prop (w : ι) (p : PE X e (tProp C (Pr Rs pr Rg) [] E' (tE E G (IsQ C q)))) (hw : Rs w = [IsQ C q]) (hp : pr w) : PE X e (tE E G (Rg w)) := PE_imp p fun σ H Q ⟨F, S, k⟩ => ⟨F, S, fun v F1 H1 g1 u1 => by
  have u2 := u1
  obtain ⟨a, dx, rfl, ha⟩ := u1.here
  exact ⟨a, dx, _, rfl, g1.s _ _ ha, F1, w, g1.ok.none, by rw [hw]; exact .cons u2 .nil, hp, fun v F' H' g u => k v F' H' (g1.trans (g.lift g1.ok)) u⟩⟩
theorem lookup_qFs {m : Str} (h1 : (m == kTop) = false) (h2 : (m == kBot) = false) : (qFs q).lookup m = none := by
  unfold qFs
  simp [List.lookup, h1, h2]
theorem je_meth {Rl : List (V → Hp → Prop)} {m : Str} (w : ι) (p : PE X e (tMeth C m (Pr Rs pr Rg) [] E' (tE E G (IsQ C q)) (tA E G Rl))) (hw : Rs w = IsQ C q :: Rl) (hp : pr w) (h1 : (m == kTop) = false := by decide) (h2 : (m == kBot) = false := by decide) : PE X e (tE E G (Rg w)) := PE_imp p fun σ H Q ⟨F, S, k⟩ => ⟨F, S, fun v F1 H1 g1 u1 => by
  have u2 := u1
  obtain ⟨a, dx, rfl, ha⟩ := u1.here
  refine ⟨a, dx, _, rfl, g1.s _ _ ha, lookup_qFs h1 h2, F1, S.gr g1, fun vs F2 H2 g2 u3 => ?_⟩
  have g := g1.trans g2
  exact ⟨F2, w, g.ok.none, by rw [hw, List.append_nil]; exact .cons (u2.mono g2.f) u3, hp, fun v F' H' g3 u => k v F' H' (g.trans (g3.lift g.ok)) u⟩⟩
theorem je_cmeth {Rl : List (V → Hp → Prop)} (w : ι) (p : PE X e (ClX.tCMeth C (Pr Rs pr Rg) E' (tC (.ref C)) (tA E G Rl))) (hw : Rs w = IsC (.ref C) :: Rl) (hp : pr w) : PE X e (tE E G (Rg w)) := PE_imp p fun σ H Q ⟨F, S, k⟩ =>
  ⟨rfl, F, S, fun vs F2 H2 g u3 => ⟨F2, w, g.ok.none, by rw [hw]; exact .cons (fun _ _ => rfl) u3, hp, fun v F' H' g3 u => k v F' H' (g.trans (g3.lift g.ok)) u⟩⟩
/-! ### making a Ratio -/
def FinI (H0 : Hp) (x C dx : Addr) (fs : List (Str × V)) (H' : Hp) : Prop := H' x = some (.ins C dx fs) ∧ ∀ a o, a ≠ x → H0 a = some o → H' a = some o
def Ht (b : Int) : Prop := b ≠ 0 ∧ b.natAbs.log2 < 9000
def InitSp (C : Addr) : Sp := fun vs H Q _ => ∃ (F : Hp) (x dx : Addr) (t b : Int), vs = [.ref x, .int t, .int b] ∧ Ok none F H ∧ F x = none ∧ H x = some (.ins C dx []) ∧ Ht b ∧ ∀ H', FinI H x C dx (qFs (Rat.divInt t b)) H' → Q .non H'
theorem je_make {dvs : List V} {Rl : List (V → Hp → Prop)} {t b : Int} (p : PE X e (tMake C (InitSp C) dvs E' (tA E G Rl))) (hv : ∀ vs F, Args Rl vs F → vs ++ dvs = [.int t, .int b]) (hb : Ht b) : PE X e (tE E G (IsQ C (Rat.divInt t b))) := PE_imp p fun σ H Q ⟨F, S, k⟩ => ⟨F, S, fun vs F1 H1 g1 a x dx hx hdx hne => by
  have n1 : F1 x = none := g1.s.back hx
  have n2 : F1 dx = none := g1.s.back hdx
  refine ⟨F1, x, dx, t, b, by rw [hv vs F1 a], ⟨fun y o h => ?_, fun _ h => nomatch h⟩, n1, upd_same, hb, fun H' fin => ⟨rfl, ?_⟩⟩
  · rw [upd_ne (ne_of_none h n1), upd_ne (ne_of_none h n2)]
    exact g1.s _ _ h
  · have keep : ∀ y o, H1 y = some o → H' y = some o := fun y o h => fin.2 y o (ne_of_none h hx) (by rw [upd_ne (ne_of_none h hx), upd_ne (ne_of_none h hdx)]; exact h)
    refine k (.ref x) (upd F1 x (.ins C dx (qFs (Rat.divInt t b)))) H' ⟨g1.f.trans (Ex.new n1), fun y o h => ?_, fun y o h hp => keep y o (g1.k y o h hp), fun y o h => ?_, fun y hy => ?_⟩ (IsQ.up ⟨x, dx, rfl, upd_same⟩)
    · by_cases z : y = x
      · subst z
        rw [upd_same] at h
        cases h
        exact fin.1
      · rw [upd_ne z] at h
        exact keep y o (g1.s _ _ h)
    · by_cases z : y = x
      · rw [z]
        exact .inr (g1.back hx)
      · rw [upd_ne z] at h
        exact g1.n y o h
    · obtain ⟨q1, i, j, q2, q3⟩ := g1.p y hy
      have z : y ≠ x := ne_of_none q2 hx
      exact ⟨by rw [upd_ne z]; exact q1, i, j, keep y _ q2, q3⟩⟩
theorem je_make2 {t b : Int} (p : PE X e (tMake C (InitSp C) [] E' (tA E G [IsI t, IsI b]))) (hb : Ht b) : PE X e (tE E G (IsQ C (Rat.divInt t b))) := je_make p (fun vs F a => by
  cases a with
  | cons r t =>
    cases t with
    | cons r2 t2 =>
      cases t2
      rw [show _ = V.int _ from r.here, show _ = V.int _ from r2.here]
      rfl) hb
theorem je_make1 {t : Int} (p : PE X e (tMake C (InitSp C) [.int 1] E' (tA E G [IsI t]))) : PE X e (tE E G (IsQ C (t : Rat))) := by
  have h := je_make (t := t) (b := 1) p (fun vs F a => by
    cases a with
    | cons r t =>
      cases t
      rw [show _ = V.int _ from r.here]
      rfl) ⟨by decide, by decide⟩
  have e : Rat.divInt t 1 = (t : Rat) := (Rat.mk_eq_divInt (num := t) (den := 1) (nz := by decide) (c := by simp)).symm
  rw [e] at h
  exact h
end
/-! ### __init__'s body -/
section
variable {X : Cx} {E : En} {G : List Sl} {st : Stmt} {rest : List Stmt} {C x dx : Addr} {fs : List (Str × V)}
def tSI (E : En) (C x dx : Addr) (fs : List (Str × V)) (G : List Sl) : TS := fun D σ H => ∃ F, Sat E G σ F H ∧ E.H x = some (.ins C dx []) ∧ E.F x = none ∧ E.pp = none ∧ ∀ σ' H', FinI E.H x C dx fs H' → D.nx σ' H'
theorem js_initS {G1 : List Sl} (p : PS X st (tS E G (fun _ _ _ => False) (· = G1))) (q : PSs X rest (tSI E C x dx fs G1)) : PSs X (st :: rest) (tSI E C x dx fs G) := PSs_imp (pss_cons p q) fun D σ H ⟨F, S, h1, h2, h3, kn⟩ =>
  ⟨F, S, fun G1' σ1 F1 H1 n1 S1 e1 => by
    subst n1
    exact ⟨F1, S1, h1, h2, h3, kn⟩, fun _ _ _ _ h => h.elim⟩
def Plain (G : List Sl) : Prop := ∀ (i : Nat) (s : Sl), G[i]? = some s → s = .un ∨ ∃ R, s = .fz R
theorem Sat.reE {σ : L2.St} {F H H' : Hp} (S : Sat E G σ F H) (hG : Plain G) (e : Ex F H') : Sat ⟨F, H', none⟩ G σ F H' where
  len := S.len
  bs := ⟨Ex.refl F, e, fun _ _ h _ => h, fun _ _ h => .inl h, fun _ h => nomatch h⟩
  p0 := fun _ h => nomatch h
  fz := S.fz
  mt := fun i R h => by
    rcases hG i _ h with z | ⟨_, z⟩ <;> cases z
  ap := fun i j R S p _ h _ => by
    rcases hG i _ h with z | ⟨_, z⟩ <;> cases z
  pt := fun i h => by
    rcases hG i _ h with z | ⟨_, z⟩ <;> cases z
theorem js_initE {t b : Int} {e1 e2 o1 o2 : Expr} {pa pb p1 p2 : Pos} (T : RatF X.K C) (hG : Plain G) (h0 : G[0]? = some (.fz (IsC (.ref x)))) (q1 : PE X e1 (tE E G (IsI t))) (q2 : ∀ E, PE X e2 (tE E G (IsI b))) (v1 : PE X o1 (tVar 0)) (v2 : PE X o2 (tVar 0))
    (s1 : swapsWith e1 (some (.Attribute o1 kTop pa)) p1.line X.env = pure false := by rfl) (s2 : swapsWith e2 (some (.Attribute o2 kBot pb)) p2.line X.env = pure false := by rfl) :
    PSs X [.Assign [.Attribute o1 kTop pa] e1 p1, .Assign [.Attribute o2 kBot pb] e2 p2] (tSI E C x dx [(kTop, .int t), (kBot, .int b)] G) := by
  refine PSs_imp (pss_cons (ps_fld v1 q1 s1) (pss_one (ps_fld v2 (PE_any q2) s2))) fun D σ H ⟨F, S, h1, h2, h3, kn⟩ => ?_
  refine ⟨F, S, fun v F1 H1 g1 u1 => ?_⟩
  have S1 := S.gr g1
  obtain ⟨w, ew, uw⟩ := S1.fz 0 _ h0
  have e0 : w = .ref x := uw.here
  subst e0
  have hx : ∀ {F' H' : Hp}, Bs E F' H' → F' x = none ∧ H' x = some (.ins C dx []) := fun {F' H'} bs => by
    refine ⟨?_, bs.k x _ h1 (by rw [h3]; exact fun z => nomatch z)⟩
    cases z : F' x with
    | none => rfl
    | some o =>
      rcases bs.n x o z with q | q
      · rw [h2] at q; cases q
      · rw [h1] at q; cases q
  obtain ⟨n1, m1⟩ := hx S1.bs
  refine ⟨.ref x, ew, x, C, dx, [], rfl, m1, T.cls, T.nt, by decide, ?_⟩
  have ev : v = .int t := u1.here
  subst ev
  have ex : Ex F1 (upd H1 x (.ins C dx (putF kTop (.int t) []))) := fun a o h => by
    rw [upd_ne (ne_of_none h n1)]
    exact S1.bs.s a o h
  have S2 := S1.reE hG ex
  refine ⟨_, F1, S2, fun v2 F2 H2 g2 u2 => ?_⟩
  have ev : v2 = .int b := u2.here
  subst ev
  have m2 : H2 x = some (.ins C dx [(kTop, .int t)]) := g2.k x _ (by rw [upd_same]; rfl) (fun z => nomatch z)
  refine ⟨.ref x, ew, x, C, dx, _, rfl, m2, T.cls, T.nb, by simp, ?_⟩
  refine kn _ _ ⟨by rw [upd_same]; rfl, fun a o ha h => ?_⟩
  rw [upd_ne ha]
  exact g2.k a o (by rw [upd_ne ha]; exact S1.bs.k a o h (by rw [h3]; exact fun z => nomatch z)) (fun z => nomatch z)
end
section
variable {P : Program} {w : World} {K : PySem.W.Frag} {mg : Str → Option Value} {base : Heap} {x qual : Str} {params : Arguments} {body : List Stmt} {scope : Scope} {dvs : List V} {kws : List (Str × V)} {f C : Addr} {fd : FuncData} {N ps : List Str} {k : Nat}
theorem fn_init (Fd : FunD K x qual params body scope dvs kws f fd) (S : FnScope N ps scope) (hl : ps.length = 3)
    (hb : ∀ (X : Cx) (E : En) (x dx : Addr) (t b : Int), (∃ cdv A outer s H E', X = cxOf CX0 P w K mg base N qual scope f cdv A outer s H E' ∧ Room k X.A) → Ht b → PSs X body (tSI E C x dx (qFs (Rat.divInt t b)) (G0 [IsC (.ref x), IsI t, IsI b] N.length))) :
    FnOk P w K mg base CX0 (k + 1) f fd ps (InitSp C) := by
  refine Fd.ok S (fun vs H Q E ⟨F, x, dx, t, b, e, _⟩ => by rw [e, hl]; rfl) (fun cdv A outer s H vs Q E hr ⟨F, x, dx, t, b, e, ok, n, m, hb', kq⟩ => ?_)
  subst e
  exact ⟨_, hb _ ⟨F, H, none⟩ x dx t b ⟨cdv, A, outer, s, H, E, rfl, hr⟩ hb', F, sat_start ok (.cons (fun _ _ => rfl) (.cons (fun _ _ => rfl) (.cons (fun _ _ => rfl) .nil))), m, n, rfl, fun σ' H' fin => kq H' fin⟩
end
/-! ### a slot of two kinds -/
theorem js_or {X : Cx} {E : En} {G : List Sl} {R1 R2 : V → Hp → Prop} {i : Nat} {st : List Stmt} {Rt : V → Hp → Hp → Prop} {N : List Sl → Prop} (h : G[i]? = some (.fz (fun v F => R1 v F ∨ R2 v F))) (h1 : ∀ v F F', R1 v F → Ex F F' → R1 v F') (h2 : ∀ v F F', R2 v F → Ex F F' → R2 v F')
    (k1 : PSs X st (tS E (G.set i (.fz R1)) Rt N)) (k2 : PSs X st (tS E (G.set i (.fz R2)) Rt N)) : PSs X st (tS E G Rt N) := by
  have k := js_open (α := Bool) (X := X) (E := E) (Rt := Rt) (N := N) (st := st) (P := fun _ => True) (R := fun b : Bool => if b = true then R1 else R2) (i := i) (G := G.set i (.fz (Som (fun _ => True) fun b : Bool => if b = true then R1 else R2)))
    (List.getElem?_set_self (List.getElem?_eq_some_iff.mp h).1) (fun b v F F' r e => by
      cases b with
      | true => exact h1 v F F' r e
      | false => exact h2 v F F' r e) (fun b _ => by
      rw [List.set_set]
      cases b with
      | true => exact k1
      | false => exact k2)
  refine js_weak ?_ k
  have all : ∀ (G : List Sl) (i : Nat), G[i]? = some (.fz (fun v F => R1 v F ∨ R2 v F)) → Paired Le G (G.set i (.fz (Som (fun _ => True) fun b : Bool => if b = true then R1 else R2))) := by
    intro G
    induction G with
    | nil => intro i h; simp at h
    | cons s G ih =>
      intro i h
      cases i with
      | zero =>
        simp at h
        subst h
        refine .cons (.fz fun v F q => q.elim (fun q => ⟨true, trivial, q⟩) fun q => ⟨false, trivial, q⟩) ?_
        clear ih
        induction G with
        | nil => exact .nil
        | cons s G ih => exact .cons (Le.rfl' s) ih
      | succ i => exact .cons (Le.rfl' s) (ih i (by simpa using h))
  exact all G i h
end Gw
set_option maxHeartbeats 4000000
namespace Gw
open PySem PySem.Spec PyProof.Rows L2

/-! ### defs by their names -/
def Kn (P : Program) (w : World) (K : PySem.W.Frag) (mg : Str → Option Value) (base : Heap) (x : Str) (k : Nat) (ps : List Str) (sp : Sp) : Prop :=
  ∃ (f : Addr) (fd : FuncData), mg x = some (.ref f) ∧ PySem.W.keepIn K (.ref f) = true ∧ Binds K fd ps [] ∧ FnOk P w K mg base CX0 k f fd ps sp
/-- natural numbers as ints -/
abbrev IsU (n : Nat) : V → Hp → Prop := IsI (n : Int)
section
variable {X : Cx} {E : En} {G : List Sl} {e a b c : Expr} {es : List Expr} {R R' Ra Rb Rz : V → Hp → Prop} {p pos apos : Pos} {ι : Type} {Rs : ι → List (V → Hp → Prop)} {pre : ι → Prop} {x : Str} {f : Addr} {fd : FuncData} {k : Nat} {ps : List Str}
variable {Rf : ι → V → Hp → Prop} {Rm : ι → List V → Hp → Prop}
theorem jc (T : Kn X.prog X.w X.K X.mg X.base x k ps (Pr Rs pre Rf)) (hr : Room k X.A) (w : ι) (ha : PA X (e :: es) (tA E G (Rs w))) (hp : pre w) (hR : Rf w = R := by exact rfl) (hg : Gl X x := by rfl) (hdb : (x == ("__debug__" : Str)) = false := by decide)
    (he : starEach (e :: es) X.env = (false, eval e X.env) :: starEach es X.env := by rfl) (hpl : (backTo pos (starEach es X.env)).any (·.1) = false := by rfl) : PE X (.Call (.Name x p) (e :: es) [] pos) (tE E G R) := by
  subst hR
  obtain ⟨f, fd, g, kp, b, ok⟩ := T
  exact je_f (E' := E0) w (pe_call ok hr hg g kp b .nil pass0 ha hdb he hpl) hp
theorem jcM {Rm' : List V → Hp → Prop} (T : Kn X.prog X.w X.K X.mg X.base x k ps (PrM Rs pre Rm)) (hr : Room k X.A) (w : ι) (ha : PA X (e :: es) (tA E G (Rs w))) (hp : pre w) (hR : Rm w = Rm' := by exact rfl) (hg : Gl X x := by rfl) (hdb : (x == ("__debug__" : Str)) = false := by decide)
    (he : starEach (e :: es) X.env = (false, eval e X.env) :: starEach es X.env := by rfl) (hpl : (backTo pos (starEach es X.env)).any (·.1) = false := by rfl) : PE X (.Call (.Name x p) (e :: es) [] pos) (tM E G Rm') := by
  subst hR
  obtain ⟨f, fd, g, kp, b, ok⟩ := T
  exact jm_f (E' := E0) w (pe_call ok hr hg g kp b .nil pass0 ha hdb he hpl) hp
theorem jcP (T : Kn X.prog X.w X.K X.mg X.base x k ps (PrP Rs pre Rf)) (hr : Room k X.A) (hpot : ∃ i : Nat, G[i]? = some .pot) (w : ι) (ha : PA X (e :: es) (tAP E G (Rs w))) (hp : pre w) (hR : Rf w = R := by exact rfl) (hg : Gl X x := by rfl) (hdb : (x == ("__debug__" : Str)) = false := by decide)
    (he : starEach (e :: es) X.env = (false, eval e X.env) :: starEach es X.env := by rfl) (hpl : (backTo pos (starEach es X.env)).any (·.1) = false := by rfl) : PE X (.Call (.Name x p) (e :: es) [] pos) (tE E G R) := by
  subst hR
  obtain ⟨f, fd, g, kp, b, ok⟩ := T
  exact je_fP (E' := E0) w hpot (pe_call ok hr hg g kp b .nil pass0 ha hdb he hpl) hp
theorem jcPM {Rm' : List V → Hp → Prop} (T : Kn X.prog X.w X.K X.mg X.base x k ps (PrPM Rs pre Rm)) (hr : Room k X.A) (hpot : ∃ i : Nat, G[i]? = some .pot) (w : ι) (ha : PA X (e :: es) (tAP E G (Rs w))) (hp : pre w) (hR : Rm w = Rm' := by exact rfl) (hg : Gl X x := by rfl) (hdb : (x == ("__debug__" : Str)) = false := by decide)
    (he : starEach (e :: es) X.env = (false, eval e X.env) :: starEach es X.env := by rfl) (hpl : (backTo pos (starEach es X.env)).any (·.1) = false := by rfl) : PE X (.Call (.Name x p) (e :: es) [] pos) (tM E G Rm') := by
  subst hR
  obtain ⟨f, fd, g, kp, b, ok⟩ := T
  exact jm_fP (E' := E0) w hpot (pe_call ok hr hg g kp b .nil pass0 ha hdb he hpl) hp
/-! ### names, constants -/
theorem pv (i : Nat) (hN : X.N[i]? = some x := by exact rfl) (hv : Vis X.env.scope x := by first | exact .inl rfl | exact .inr (.inl rfl) | exact .inr (.inr rfl)) (hd : (x == ("__debug__" : Str)) = false := by decide) (hcd : (x == ("__classdict__" : Str)) = false := by decide) : PE X (.Name x pos) (tVar i) := pe_var hN hv hd hcd
theorem jv (i : Nat) (h : G[i]? = some (.fz R) := by exact rfl) (hN : X.N[i]? = some x := by exact rfl) (hv : Vis X.env.scope x := by first | exact .inl rfl | exact .inr (.inl rfl) | exact .inr (.inr rfl)) (hd : (x == ("__debug__" : Str)) = false := by decide)
    (hcd : (x == ("__classdict__" : Str)) = false := by decide) : PE X (.Name x pos) (tE E G R) := je_var (pe_var hN hv hd hcd) h
theorem jI {i : Int} {j : Nat} : PE X (.Constant (.int i) j pos) (tE E G (IsI i)) := je_c pe_int fun _ => rfl
theorem jNon {j : Nat} : PE X (.Constant .none j pos) (tE E G IsN) := je_c pe_non fun _ => rfl
theorem jBl {b : Bool} {j : Nat} : PE X (.Constant (.bool b) j pos) (tE E G (IsB b)) := je_c pe_bl fun _ => rfl
theorem jglob {v : V} {u : Value} (hm : X.mg x = some u) (r : RelV v u) (hg : Gl X x := by rfl) (hd : (x == ("__debug__" : Str)) = false := by decide) : PE X (.Name x pos) (tE E G (IsC v)) := je_c (pe_glob hg hm r hd) fun _ => rfl
theorem jgI {i : Int} {t : Tok} (hm : X.mg x = some (.int i t)) (hg : Gl X x := by rfl) (hd : (x == ("__debug__" : Str)) = false := by decide) : PE X (.Name x pos) (tE E G (IsI i)) := je_c (pe_glob (v := .int i) hg hm ⟨_, rfl⟩ hd) fun _ => rfl
theorem jty {n : String} (hm : X.mg x = none) (hv : bootBuiltins x = some (.type n)) (hg : Gl X x := by rfl) (hn : x ≠ "__name__" := by decide) (hd : (x == ("__debug__" : Str)) = false := by decide) : PE X (.Name x pos) (tE E G (IsC (.ty n))) := je_c (pe_bltn (v := .ty n) hg hm hv rfl hn hd) fun _ => rfl
/-! ### built-in calls -/
theorem jbB {id : String} {r : List V → Hp → VK → Prop} {Ss : List (V → Hp → Prop)} (hc : CallR X (.builtin id) r) (hm : X.mg x = none) (hv : bootBuiltins x = some (.builtin id)) (ha : PA X (e :: es) (tA E G Ss)) (h : RC E.pp r Ss Rz) (hg : Gl X x := by rfl) (hn : x ≠ "__name__" := by decide) (hdb : (x == ("__debug__" : Str)) = false := by decide)
    (he : starEach (e :: es) X.env = (false, eval e X.env) :: starEach es X.env := by rfl) (hpl : (backTo pos (starEach es X.env)).any (·.1) = false := by rfl) : PE X (.Call (.Name x p) (e :: es) [] pos) (tE E G Rz) := je_cb (pe_callB hc hg hm hv ha hn hdb he hpl) h
theorem jbT {id : String} {r : List V → Hp → VK → Prop} {Ss : List (V → Hp → Prop)} (hc : CallR X (.type id) r) (hm : X.mg x = none) (hv : bootBuiltins x = some (.type id)) (ha : PA X (e :: es) (tA E G Ss)) (h : RC E.pp r Ss Rz) (hg : Gl X x := by rfl) (hn : x ≠ "__name__" := by decide) (hdb : (x == ("__debug__" : Str)) = false := by decide)
    (he : starEach (e :: es) X.env = (false, eval e X.env) :: starEach es X.env := by rfl) (hpl : (backTo pos (starEach es X.env)).any (·.1) = false := by rfl) : PE X (.Call (.Name x p) (e :: es) [] pos) (tE E G Rz) := je_cb (pe_callTy hc hg hm hv ha hn hdb he hpl) h
theorem jbF {id : String} {r : List V → Hp → VK → Prop} {Ss : List (V → Hp → Prop)} (hc : CallR X (.builtin id) r) (hm : X.mg x = some (.builtin id)) (ha : PA X (e :: es) (tA E G Ss)) (h : RC E.pp r Ss Rz) (hg : Gl X x := by rfl) (hdb : (x == ("__debug__" : Str)) = false := by decide)
    (he : starEach (e :: es) X.env = (false, eval e X.env) :: starEach es X.env := by rfl) (hpl : (backTo pos (starEach es X.env)).any (·.1) = false := by rfl) : PE X (.Call (.Name x p) (e :: es) [] pos) (tE E G Rz) := je_cb (pe_callBfun hc hg hm ha hdb he hpl) h
/-! ### subscripts -/
theorem rop_ixB {α : Type} [Inhabited α] {K : PySem.W.Frag} {pp : Option Addr} {Rx : α → V → Hp → Prop} {xs : List α} {j : Nat} (h : j < xs.length) : ROp pp (rIxL K) (IsL Rx xs) (IsI (j : Int)) (Rx xs[j]!) := rop_ixL (j := j) (x := xs[j]!) (by rw [getElem!_pos xs j h, List.getElem?_eq_getElem h])
/-! ### targets -/
theorem gN (i : Nat) (hN : X.N.Nodup) (hi : X.N[i]? = some x := by exact rfl) (hx : Loc X.env.scope x := by first | exact .inl rfl | exact .inr rfl) (hf : X.fn x = true ∨ X.env.scope.names.lookup x = some .local := by first | exact .inl rfl | exact .inr rfl) : PG X (.Name x pos) (gName i) := pg_name hN hi hx hf
theorem jg1 (i : Nat) (hN : X.N.Nodup) (hi : X.N[i]? = some x := by exact rfl) (hx : Loc X.env.scope x := by first | exact .inl rfl | exact .inr rfl) (hf : X.fn x = true ∨ X.env.scope.names.lookup x = some .local := by first | exact .inl rfl | exact .inr rfl) : PG X (.Name x pos) (tG E R [i] (fun G => G.set i (.fz R))) := jg_name (pg_name hN hi hx hf)
theorem jg2 (i j : Nat) {y : Str} {p2 : Pos} {kk : Nat} (hN : X.N.Nodup) (hc : X.calm = true := by rfl) (hi : X.N[i]? = some x := by exact rfl) (hj : X.N[j]? = some y := by exact rfl) (hx : Loc X.env.scope x := by first | exact .inl rfl | exact .inr rfl) (hf : X.fn x = true ∨ X.env.scope.names.lookup x = some .local := by first | exact .inl rfl | exact .inr rfl)
    (hx2 : Loc X.env.scope y := by first | exact .inl rfl | exact .inr rfl) (hf2 : X.fn y = true ∨ X.env.scope.names.lookup y = some .local := by first | exact .inl rfl | exact .inr rfl) :
    PG X (.Tuple [.Name x p, .Name y p2] kk pos) (tG E (IsTp [Ra, Rb]) [i, j] (fun G => (G.set i (.fz Ra)).set j (.fz Rb))) := jg_tup2 (pg_tup hc (pgs_cons (pg_name hN hi hx hf) (pgs_cons (pg_name hN hj hx2 hf2) pgs_nil)))
theorem jg3 (i j l : Nat) {y z : Str} {p2 p3 : Pos} {kk : Nat} {Rc : V → Hp → Prop} (hN : X.N.Nodup) (hc : X.calm = true := by rfl) (hi : X.N[i]? = some x := by exact rfl) (hj : X.N[j]? = some y := by exact rfl) (hl : X.N[l]? = some z := by exact rfl) (hx : Loc X.env.scope x := by first | exact .inl rfl | exact .inr rfl) (hf : X.fn x = true ∨ X.env.scope.names.lookup x = some .local := by first | exact .inl rfl | exact .inr rfl)
    (hx2 : Loc X.env.scope y := by first | exact .inl rfl | exact .inr rfl) (hf2 : X.fn y = true ∨ X.env.scope.names.lookup y = some .local := by first | exact .inl rfl | exact .inr rfl) (hx3 : Loc X.env.scope z := by first | exact .inl rfl | exact .inr rfl) (hf3 : X.fn z = true ∨ X.env.scope.names.lookup z = some .local := by first | exact .inl rfl | exact .inr rfl) :
    PG X (.Tuple [.Name x p, .Name y p2, .Name z p3] kk pos) (tG E (IsTp [Ra, Rb, Rc]) [i, j, l] (fun G => ((G.set i (.fz Ra)).set j (.fz Rb)).set l (.fz Rc))) := jg_tup3 (pg_tup hc (pgs_cons (pg_name hN hi hx hf) (pgs_cons (pg_name hN hj hx2 hf2) (pgs_cons (pg_name hN hl hx3 hf3) pgs_nil))))
/-! ### what is walked, by natural numbers -/
def enumN {α : Type} (xs : List α) : List (Nat × α) := xs.zipIdx.map fun p => (p.2, p.1)
theorem enumN_get {α : Type} {xs : List α} {i : Nat} {q : Nat × α} (h : (enumN xs)[i]? = some q) : q.1 = i ∧ xs[i]? = some q.2 := by
  unfold enumN at h
  rw [List.getElem?_map, List.getElem?_zipIdx] at h
  cases e : xs[i]? with
  | none => rw [e] at h; cases h
  | some x =>
    rw [e] at h
    cases h
    exact ⟨by simp, rfl⟩
theorem enumN_len {α : Type} (xs : List α) : (enumN xs).length = xs.length := by simp [enumN]
theorem jiM {α β : Type} {Rx : α → V → Hp → Prop} {Ry : β → V → Hp → Prop} {xs : List α} {ys : List β} {tg : Expr} (h : PI X tg e (tI E G Rx xs)) (hl : xs.length = ys.length) (hc : ∀ (i : Nat) (x : α) (y : β), xs[i]? = some x → ys[i]? = some y → ∀ v F, Rx x v F → Ry y v F) : PI X tg e (tI E G Ry ys) := PI_imp h fun σ H Rj ⟨F, S, k⟩ =>
  ⟨F, S, fun J F' H' g src => k J F' H' g ⟨fun i F1 H1 hi => src.go i F1 H1 (by omega), fun F1 H1 => by rw [← hl]; exact src.stop F1 H1, fun i y F1 H1 v H2 hy e1 o z => by
    have hi : i < xs.length := by rw [hl]; exact (List.getElem?_eq_some_iff.mp hy).1
    obtain ⟨F2, g2, u⟩ := src.yld i xs[i] F1 H1 v H2 (List.getElem?_eq_getElem hi) e1 o z
    exact ⟨F2, g2, u.imp (fun F q => hc i xs[i] y (List.getElem?_eq_getElem hi) hy v F q)⟩⟩⟩
theorem ji_rangeN {n : Nat} {tg : Expr} (hn : n < 2 ^ 62) (p : PI X tg e (iRng1 (tA E G [IsI n]))) : PI X tg e (tI E G IsU (List.range n)) := jiM (ji_range hn p) (by simp [upTo]) fun i x y h1 h2 v F q => by
  obtain ⟨rfl, hi⟩ := upTo_get h1
  rw [List.getElem?_range hi] at h2
  cases h2
  exact q
theorem isTp_imp {Rs Rs' : List (V → Hp → Prop)} (h : Paired (fun R R' => ∀ v F, R v F → R' v F) Rs Rs') : ∀ v F, IsTp Rs v F → IsTp Rs' v F := fun v F ⟨a, vs, e, ha, u⟩ => ⟨a, vs, e, ha, u.imp fun F q => by
  have all : ∀ {Rs Rs' : List (V → Hp → Prop)} {vs : List V}, Paired (fun R R' => ∀ v F, R v F → R' v F) Rs Rs' → Paired (fun R v => Up R v F) Rs vs → Paired (fun R v => Up R v F) Rs' vs := by
    intro Rs Rs' vs h
    induction h generalizing vs with
    | nil => intro q; exact q
    | cons r t ih =>
      intro q
      cases q with
      | cons r2 t2 => exact .cons (r2.imp fun F z => r _ F z) (ih t2)
  exact all h q⟩
theorem ji_enumN {α : Type} {Rx : α → V → Hp → Prop} {xs : List α} {K : PySem.W.Frag} {tg : Expr} (p : PI X tg e (iEnum K (tA E G [IsL Rx xs]))) : PI X tg e (tI E G (fun q : Nat × α => IsTp [IsU q.1, Rx q.2]) (enumN xs)) := jiM (ji_enum p) (by rw [enumL_len, enumN_len]) fun i q r h1 h2 v F z => by
  obtain ⟨a1, a2⟩ := enumL_get h1
  obtain ⟨b1, b2⟩ := enumN_get h2
  rw [a2] at b2
  have e2 : q.2 = r.2 := Option.some.inj b2
  have e1 : q.1 = (r.1 : Int) := by rw [a1, b1]
  rw [← e2]
  show IsTp [IsI (r.1 : Int), Rx q.2] v F
  rw [← e1]
  exact z
theorem mem_enumN {α : Type} {xs : List α} {q : Nat × α} (h : q ∈ enumN xs) : q.1 < xs.length ∧ xs[q.1]? = some q.2 := by
  obtain ⟨i, hi⟩ := List.getElem?_of_mem h
  obtain ⟨h1, h2⟩ := enumN_get hi
  subst h1
  exact ⟨(List.getElem?_eq_some_iff.mp h2).1, h2⟩
end
/-! ### comprehensions, also stored by one line -/
section
variable {X : Cx} {E : En} {G : List Sl} {pos : Pos} {α β : Type} {Rx : α → V → Hp → Prop} {xs : List α} {Ry : β → V → Hp → Prop} {tg iter elt : Expr} {ifs : List Expr} {scope : Scope} {own : List (Str × Nat)} {idx : List Nat} {f : α → List Sl → List Sl}
theorem js_setLc {i : Nat} {y : Str} {py spos : Pos} {Rt : V → Hp → Hp → Prop} (pr : α → Bool) (g : α → β)
    (hc : X.calm = true) (hN : X.N.Nodup) (hy : X.N[i]? = some y) (hyl : X.env.scope.names.lookup y = some .local) (hsw : swapsWith (.ListComp elt [⟨tg, iter, ifs, 0⟩] scope pos) (some (.Name y py)) spos.line X.env = pure true)
    (hi : PI X tg iter (tI E G Rx xs)) (ok : BlkOk X.N X.env.scope scope own) (hidx : ∀ k ∈ idx, k ∈ own.map (·.2))
    (hg : ∀ (s : Shared) (H : Hp) (C : Addr) (cl : List (Str × Addr)) (fp : List Addr) (x : α), PG (X.blk s H scope (compEnvC scope cl C X.env) fp) tg (tG E (Rx x) idx (f x)))
    (ht : ∀ (s : Shared) (H : Hp) (C : Addr) (cl : List (Str × Addr)) (fp : List Addr) (x : α), x ∈ xs → PTs (X.blk s H scope (compEnvC scope cl C X.env) fp) ifs (tT E (f x (wipeG G (own.map (·.2)))) (pr x)))
    (he : ∀ (s : Shared) (H : Hp) (C : Addr) (cl : List (Str × Addr)) (fp : List Addr) (x : α), x ∈ xs → pr x = true → PE (X.blk s H scope (compEnvC scope cl C X.env) fp) elt (tE E (f x (wipeG G (own.map (·.2)))) (Ry (g x))))
    (hz : xs.length < sizeLine) (hs : ∀ x, foldedSetIterable iter X.env x = pure x := by intro _; rfl) :
    PS X (.Assign [.Name y py] (.ListComp elt [⟨tg, iter, ifs, 0⟩] scope pos) spos) (tS E G Rt (· = G.set i (.mt (LsOf Ry ((xs.filter pr).map g))))) := by
  have P := ps_setLc (i := i) hc hN hy hyl hsw hi ok (g := fun v σ H Q => ∃ x, tG E (Rx x) idx (f x) v σ H Q) (tt := fun σ H Q => ∃ q : { x // x ∈ xs }, tT E (f q.1 (wipeG G (own.map (·.2)))) (pr q.1) σ H Q)
    (te := fun σ H Q => ∃ q : { x // x ∈ xs ∧ pr x = true }, tE E (f q.1 (wipeG G (own.map (·.2)))) (Ry (g q.1)) σ H Q)
    (fun s H C cl fp => ⟨fun pins s' σ H' v u Q I r ⟨x, h⟩ => (hg s H C cl fp x).run pins s' σ H' v u Q I r h⟩) (fun s H C cl fp => PTs_any fun q => ht s H C cl fp q.1 q.2) (fun s H C cl fp => PE_any fun q => he s H C cl fp q.1 q.2.1 q.2.2) hs
  refine js_setM (Rm := LsOf Ry ((xs.filter pr).map g)) (PS_imp P fun D σ H hw => ?_)
  revert hw
  show tM E G (LsOf Ry ((xs.filter pr).map g)) σ H (fun v H1 => gName i v σ H1 D.nx) → tLc _ _ _ _ _ σ H (fun v H1 => gName i v σ H1 D.nx)
  exact lc_read pr g hidx hz
end
/-! ### what is known of the class -/
section
variable (P : Program) (w : World) (K : PySem.W.Frag) (mg : Str → Option Value) (base : Heap) (C : Addr)
def Mkr (k : Nat) : Prop := mg "Ratio" = some (.ref C) ∧ ∃ (f : Addr) (fd : FuncData) (ds : List Value), Mk K C f ∧ FnOk P w K mg base CX0 k f fd ["self", "top", "bottom"] (InitSp C) ∧ Binds K fd ["self", "top", "bottom"] [] ∧ Vals [V.int 1] ds ∧ Binds K fd ["self", "top", "bottom"] ds
abbrev spq (C : Addr) (pre : Rat × Rat → Prop) (fn : Rat → Rat → Rat) : Sp := Pr (qA C) pre (fun w => IsQ C (fn w.1 w.2))
def Opr (op : Operator) (k : Nat) (pre : Rat × Rat → Prop) (fn : Rat → Rat → Rat) : Prop := ∃ (f g : Addr) (fd : FuncData), OwnI K C f g op ∧ FnOk P w K mg base CX0 k f fd ["self", "other"] (spq C pre fn) ∧ Binds K fd ["self", "other"] []
def OprR (op : Operator) (k : Nat) (pre : Rat × Rat → Prop) (fn : Rat → Rat → Rat) : Prop := ∃ (f g : Addr) (fd : FuncData), OwnI K C f g op ∧ FnOk P w K mg base CX0 k g fd ["self", "other"] (spq C pre fn) ∧ Binds K fd ["self", "other"] []
abbrev spEqQ (C : Addr) : Sp := Pr (qE C) (fun _ => True) (fun w => IsB (decide (w.1 = w.2)))
def EqK (k : Nat) : Prop := ∃ (f : Addr) (fd : FuncData), PySem.W.findIn K (.ref C) "__eq__" = some (some (.ref f)) ∧ PySem.W.isFn K (.ref f) = true ∧ PySem.W.findIn K (.ref C) "__ne__" = some (some (.builtin "object.__ne__")) ∧ PySem.W.subIn K (.ref C) (.type "object") = some true ∧
  FnOk P w K mg base CX0 k f fd ["self", "other"] (spEqQ C) ∧ Binds K fd ["self", "other"] []
def PropK (x : Str) (k : Nat) (sp : Sp) : Prop := ∃ (p g : Addr) (fd : FuncData), Cls K C ∧ PropOf K C x p g ∧ FnOk P w K mg base CX0 k g fd ["self"] sp ∧ Binds K fd ["self"] []
def MethK (m : Str) (k : Nat) (ps : List Str) (sp : Sp) : Prop := ∃ (f : Addr) (fd : FuncData), Cls K C ∧ Meth K C m f ∧ FnOk P w K mg base CX0 k f fd ps sp ∧ Binds K fd ps []
def CmK (m : Str) (k : Nat) (sp : Sp) : Prop := ∃ (mc : Value) (p g : Addr), ClX.CRead K C mc ∧ ClX.CMet K C mc m p g ∧ FnR P w K mg base CX0 k g sp
end
section
variable {X : Cx} {E : En} {G : List Sl} {e o a b c : Expr} {es : List Expr} {p pos apos : Pos} {C : Addr} {k : Nat} {q r : Rat} {pre : Rat × Rat → Prop} {fn : Rat → Rat → Rat} {op : Operator} {R : V → Hp → Prop}
theorem jmk1 {t : Int} (T : Mkr X.prog X.w X.K X.mg X.base C k) (hr : Room (k + 1) X.A) (ha : PA X [e] (tA E G [IsI t])) (hg : Gl X "Ratio" := by rfl) (he : starEach [e] X.env = (false, eval e X.env) :: starEach [] X.env := by rfl) : PE X (.Call (.Name "Ratio" p) [e] [] pos) (tE E G (IsQ C (t : Rat))) := by
  obtain ⟨g, f, fd, ds, M, ok, b0, hd, b1⟩ := T
  exact je_make1 (E' := E0) (pe_make M ok hr hg g b1 hd pass0 ha (by decide) he (by rfl))
theorem jmk2 {t u : Int} (T : Mkr X.prog X.w X.K X.mg X.base C k) (hr : Room (k + 1) X.A) (ha : PA X [e, o] (tA E G [IsI t, IsI u])) (hb : Ht u) (hg : Gl X "Ratio" := by rfl) (he : starEach [e, o] X.env = (false, eval e X.env) :: starEach [o] X.env := by rfl)
    (hpl : (backTo pos (starEach [o] X.env)).any (·.1) = false := by rfl) : PE X (.Call (.Name "Ratio" p) [e, o] [] pos) (tE E G (IsQ C (Rat.divInt t u))) := by
  obtain ⟨g, f, fd, ds, M, ok, b0, hd, b1⟩ := T
  exact je_make2 (E' := E0) (pe_make M ok hr hg g b0 .nil pass0 ha (by decide) he hpl) hb
theorem joQ (T : Opr X.prog X.w X.K X.mg X.base C op k pre fn) (hr : Room k X.A) (ha : PE X a (tE E G (IsQ C q))) (hb : PE X b (tE E G (IsQ C r))) (hp : pre (q, r)) (hR : IsQ C (fn q r) = R := by exact rfl) : PE X (.BinOp a op b pos) (tE E G R) := by
  subst hR
  obtain ⟨f, g, fd, O, ok, bd⟩ := T
  exact je_op (pe_op (op_own (E' := E0) O.toOwnB ok hr bd) ha hb) (rop_own (Rf := fun w => IsQ C (fn w.1 w.2)) hp)
theorem joQI {i : Int} (T : Opr X.prog X.w X.K X.mg X.base C op k pre fn) (hr : Room k X.A) (ha : PE X a (tE E G (IsQ C q))) (hb : PE X b (tE E G (IsI i))) (hp : pre (q, (i : Rat))) (hR : IsQ C (fn q (i : Rat)) = R := by exact rfl) : PE X (.BinOp a op b pos) (tE E G R) := by
  subst hR
  obtain ⟨f, g, fd, O, ok, bd⟩ := T
  exact je_op (pe_op (op_ownI (E' := E0) O ok hr bd) ha hb) (rop_ownI (Rf := fun w => IsQ C (fn w.1 w.2)) hp)
theorem joIQ_sub {i : Int} (T : OprR X.prog X.w X.K X.mg X.base C .Sub k pre fn) (hr : Room k X.A) (ha : PE X a (tE E G (IsI i))) (hb : PE X b (tE E G (IsQ C q))) (hp : pre (q, (i : Rat))) (hR : IsQ C (fn q (i : Rat)) = R := by exact rfl) : PE X (.BinOp a .Sub b pos) (tE E G R) := by
  subst hR
  obtain ⟨f, g, fd, O, ok, bd⟩ := T
  exact je_op (pe_op (op_Iown (E' := E0) O (fun A E s i t b dx h => decl_sub A E s i t b dx h) F.fills_int_sub ok hr bd) ha hb) (rop_Iown (Rf := fun w => IsQ C (fn w.1 w.2)) hp)
theorem joIQ_mul {i : Int} (T : OprR X.prog X.w X.K X.mg X.base C .Mult k pre fn) (hr : Room k X.A) (ha : PE X a (tE E G (IsI i))) (hb : PE X b (tE E G (IsQ C q))) (hp : pre (q, (i : Rat))) (hR : IsQ C (fn q (i : Rat)) = R := by exact rfl) : PE X (.BinOp a .Mult b pos) (tE E G R) := by
  subst hR
  obtain ⟨f, g, fd, O, ok, bd⟩ := T
  exact je_op (pe_op (op_Iown (E' := E0) O (fun A E s i t b dx h => decl_mul A E s i t b dx h) F.fills_int_mul ok hr bd) ha hb) (rop_Iown (Rf := fun w => IsQ C (fn w.1 w.2)) hp)
theorem joIQ_add {i : Int} (T : OprR X.prog X.w X.K X.mg X.base C .Add k pre fn) (hr : Room k X.A) (ha : PE X a (tE E G (IsI i))) (hb : PE X b (tE E G (IsQ C q))) (hp : pre (q, (i : Rat))) (hR : IsQ C (fn q (i : Rat)) = R := by exact rfl) : PE X (.BinOp a .Add b pos) (tE E G R) := by
  subst hR
  obtain ⟨f, g, fd, O, ok, bd⟩ := T
  exact je_op (pe_op (op_Iown (E' := E0) O (fun A E s i t b dx h => decl_add A E s i t b dx h) F.fills_int_add ok hr bd) ha hb) (rop_Iown (Rf := fun w => IsQ C (fn w.1 w.2)) hp)
theorem jeqQ (T : EqK X.prog X.w X.K X.mg X.base C k) (hr : Room k X.A) (ha : PE X a (tE E G (IsQ C q))) (hb : PE X b (tE E G (IsQ C r))) : PE X (.Compare a [.Eq] [b] pos) (tE E G (IsB (decide (q = r)))) := by
  obtain ⟨f, fd, h1, h2, h3, h4, ok, bd⟩ := T
  exact je_op (pe_cmpR (op_eqOwn (E' := E0) h1 h2 ok hr bd) ha hb (nomark _)) rop_eqQ
theorem jneQ (T : EqK X.prog X.w X.K X.mg X.base C k) (hr : Room (k + 1) X.A) (ha : PE X a (tE E G (IsQ C q))) (hb : PE X b (tE E G (IsQ C r))) : PT X (.Compare a [.NotEq] [b] pos) (tT E G (!decide (q = r))) := by
  obtain ⟨f, fd, h1, h2, h3, h4, ok, bd⟩ := T
  exact jt_cmp (pt_cmpR (op_neOwn (E' := E0) h1 h2 h3 h4 ok hr bd) ha hb (nomark _)) rop_neQ
theorem jteqQ (T : EqK X.prog X.w X.K X.mg X.base C k) (hr : Room k X.A) (ha : PE X a (tE E G (IsQ C q))) (hb : PE X b (tE E G (IsQ C r))) : PT X (.Compare a [.Eq] [b] pos) (tT E G (decide (q = r))) := by
  obtain ⟨f, fd, h1, h2, h3, h4, ok, bd⟩ := T
  exact jt_cmp (pt_cmpR (op_eqOwn (E' := E0) h1 h2 ok hr bd) ha hb (nomark _)) rop_eqQ
variable {ι : Type} {Rs : ι → List (V → Hp → Prop)} {pr : ι → Prop} {Rg : ι → V → Hp → Prop} {x m : Str} {ps : List Str}
theorem jprop (T : PropK X.prog X.w X.K X.mg X.base C x k (Pr Rs pr Rg)) (hr : Room (k + 1) X.A) (w : ι) (ha : PE X e (tE E G (IsQ C q))) (hw : Rs w = [IsQ C q] := by rfl) (hp : pr w) (hR : Rg w = R := by exact rfl) (hab : attributeBase e x X.env (eval e X.env) = eval e X.env := by rfl) : PE X (.Attribute e x pos) (tE E G R) := by
  subst hR
  obtain ⟨p, g, fd, c, h, ok, bd⟩ := T
  exact je_prop (E' := E0) w (pe_prop ha c h ok hr bd .nil (fun _ _ _ _ _ _ _ h => h.elim) hab) hw hp
theorem jmeth {Rl : List (V → Hp → Prop)} {pl : Sem Bool} (T : MethK X.prog X.w X.K X.mg X.base C m k ps (Pr Rs pr Rg)) (hr : Room k X.A) (w : ι) (ho : PE X o (tE E G (IsQ C q))) (ha : PA X (e :: es) (tA E G Rl)) (hw : Rs w = IsQ C q :: Rl) (hp : pr w) (hR : Rg w = R := by exact rfl) (h1 : (m == kTop) = false := by decide) (h2 : (m == kBot) = false := by decide)
    (hst : starEach (e :: es) X.env = (false, eval e X.env) :: starEach es X.env := by rfl) (hpl : (backTo pos (starEach es X.env)).any (·.1) = false := by rfl)
    (ht : eval (.Call (.Attribute o m apos) (e :: es) [] pos) X.env = (do
      let ov ← eval o X.env
      standAt apos.atName
      let (f, first) ← holding [ov] (getMethod ov m pl)
      callWith pos f first (backTo pos (starEach (e :: es) X.env)) (backToKw pos (keywordEach [] X.env))) := by rfl) : PE X (.Call (.Attribute o m apos) (e :: es) [] pos) (tE E G R) := by
  subst hR
  obtain ⟨f, fd, c, h, ok, bd⟩ := T
  exact je_meth (E' := E0) w (pe_meth (pl := pl) ho c h ok hr bd .nil pass0 ha hst hpl ht) hw hp h1 h2
theorem jcm {Rl : List (V → Hp → Prop)} {pl : Sem Bool} (T : CmK X.prog X.w X.K X.mg X.base C m k (Pr Rs pr Rg)) (hr : Room k X.A) (w : ι) (hgl : Gl X x) (hmg : X.mg x = some (.ref C)) (ha : PA X (e :: es) (tA E G Rl)) (hw : Rs w = IsC (.ref C) :: Rl) (hp : pr w) (hR : Rg w = R := by exact rfl) (hdb : (x == ("__debug__" : Str)) = false := by decide)
    (hst : starEach (e :: es) X.env = (false, eval e X.env) :: starEach es X.env := by rfl) (hpl : (backTo pos (starEach es X.env)).any (·.1) = false := by rfl)
    (ht : eval (.Call (.Attribute (.Name x p) m apos) (e :: es) [] pos) X.env = (do
      let ov ← eval (.Name x p) X.env
      standAt apos.atName
      let (f, first) ← holding [ov] (getMethod ov m pl)
      callWith pos f first (backTo pos (starEach (e :: es) X.env)) (backToKw pos (keywordEach [] X.env))) := by rfl) : PE X (.Call (.Attribute (.Name x p) m apos) (e :: es) [] pos) (tE E G R) := by
  subst hR
  obtain ⟨mc, p', g, c, h, ok⟩ := T
  exact je_cmeth (E' := E0) w (ClX.pe_cmeth (pl := pl) (pe_glob (v := .ref C) hgl hmg rfl hdb) c h ok hr pass0 ha hst hpl ht) hw hp
end
section
variable {X : Cx} {E : En} {G : List Sl} {pos : Pos} {α β : Type} {Rx : α → V → Hp → Prop} {xs : List α} {Ry : β → V → Hp → Prop} {tg iter elt : Expr} {ifs : List Expr} {scope : Scope} {own : List (Str × Nat)} {idx : List Nat} {f : α → List Sl → List Sl}
theorem jts_nil : PTs X [] (tT E G true) := ⟨fun pins s σ H Q I ⟨F, S, k⟩ => pts_nil.run pins s σ H Q I (k F H S.refl)⟩
theorem jts_one {c : Expr} {b : Bool} (h : PT X c (tT E G b)) : PTs X [c] (tT E G b) := pts_one h
theorem filter_true {α : Type} (xs : List α) : xs.filter (fun _ => true) = xs := by
  induction xs with
  | nil => rfl
  | cons x xs ih => rw [List.filter_cons, if_pos rfl, ih]
/-- [elt for tg in iter] -/
theorem jlc {Rm : List V → Hp → Prop} (g : α → β) (own : List (Str × Nat)) (hN : X.N.Nodup) (hi : PI X tg iter (tI E G Rx xs))
    (hg : ∀ (s : Shared) (H : Hp) (C : Addr) (cl : List (Str × Addr)) (fp : List Addr) (x : α), PG (X.blk s H scope (compEnvC scope cl C X.env) fp) tg (tG E (Rx x) idx (f x)))
    (he : ∀ (s : Shared) (H : Hp) (C : Addr) (cl : List (Str × Addr)) (fp : List Addr) (x : α), x ∈ xs → PE (X.blk s H scope (compEnvC scope cl C X.env) fp) elt (tE E (f x (wipeG G (own.map (·.2)))) (Ry (g x))))
    (hz : xs.length < sizeLine) (hR : LsOf Ry (xs.map g) = Rm := by exact rfl) (ok : blkC X.N X.env.scope scope own = true := by kernel_rfl) (hc : X.calm = true := by rfl) (hidx : ∀ k ∈ idx, k ∈ own.map (·.2) := by decide) (hs : ∀ x, foldedSetIterable iter X.env x = pure x := by intro _; rfl) :
    PE X (.ListComp elt [⟨tg, iter, [], 0⟩] scope pos) (tM E G Rm) := by
  subst hR
  have h := jm_lc (X := X) (pos := pos) (fun _ => true) g hc hN hi (blkOk_by ok) hidx hg (fun s H C cl fp x hx => jts_nil) (fun s H C cl fp x hx _ => he s H C cl fp x hx) hz hs
  rwa [filter_true] at h
/-- name = [elt for tg in iter], the name a local -/
theorem jslc {i : Nat} {y : Str} {py spos : Pos} {Rt : V → Hp → Hp → Prop} (g : α → β) (own : List (Str × Nat)) (hN : X.N.Nodup) (hi : PI X tg iter (tI E G Rx xs))
    (hg : ∀ (s : Shared) (H : Hp) (C : Addr) (cl : List (Str × Addr)) (fp : List Addr) (x : α), PG (X.blk s H scope (compEnvC scope cl C X.env) fp) tg (tG E (Rx x) idx (f x)))
    (he : ∀ (s : Shared) (H : Hp) (C : Addr) (cl : List (Str × Addr)) (fp : List Addr) (x : α), x ∈ xs → PE (X.blk s H scope (compEnvC scope cl C X.env) fp) elt (tE E (f x (wipeG G (own.map (·.2)))) (Ry (g x))))
    (hz : xs.length < sizeLine) (hy : X.N[i]? = some y := by exact rfl) (hyl : X.env.scope.names.lookup y = some .local := by exact rfl) (hsw : swapsWith (.ListComp elt [⟨tg, iter, [], 0⟩] scope pos) (some (.Name y py)) spos.line X.env = pure true := by exact sw_true rfl rfl rfl (by decide +kernel))
    (ok : blkC X.N X.env.scope scope own = true := by kernel_rfl) (hc : X.calm = true := by rfl) (hidx : ∀ k ∈ idx, k ∈ own.map (·.2) := by decide) (hs : ∀ x, foldedSetIterable iter X.env x = pure x := by intro _; rfl) :
    PS X (.Assign [.Name y py] (.ListComp elt [⟨tg, iter, [], 0⟩] scope pos) spos) (tS E G Rt (· = G.set i (.mt (LsOf Ry (xs.map g))))) := by
  have h := js_setLc (X := X) (E := E) (G := G) (pos := pos) (spos := spos) (py := py) (i := i) (Rt := Rt) (fun _ => true) g hc hN hy hyl hsw hi (blkOk_by ok) hidx hg (fun s H C cl fp x hx => jts_nil) (fun s H C cl fp x hx _ => he s H C cl fp x hx) hz hs
  rwa [filter_true] at h
end
/-! ### lists or tuples of anything -/
def IsAL (v : V) (F : Hp) : Prop := ∃ a vs, v = .ref a ∧ F a = some (.lst vs)
def IsAT (v : V) (F : Hp) : Prop := ∃ a vs, v = .ref a ∧ F a = some (.tup vs)
def IsLT (v : V) (F : Hp) : Prop := IsAL v F ∨ IsAT v F
theorem lst_al {R : List V → Hp → Prop} : ∀ v F, LstOf R v F → IsAL v F := fun v F ⟨a, vs, e, h, _⟩ => ⟨a, vs, e, h⟩
theorem tup_at {R : List V → Hp → Prop} : ∀ v F, TupOf R v F → IsAT v F := fun v F ⟨a, vs, e, h, _⟩ => ⟨a, vs, e, h⟩
theorem lst_lt {R : List V → Hp → Prop} : ∀ v F, LstOf R v F → IsLT v F := fun v F h => .inl (lst_al v F h)
theorem tup_lt {R : List V → Hp → Prop} : ∀ v F, TupOf R v F → IsLT v F := fun v F h => .inr (tup_at v F h)
theorem sq_lt {α : Type} {R : α → V → Hp → Prop} {xs : List α} : ∀ v F, IsSq R xs v F → IsLT v F := fun v F h => h.elim (lst_lt v F) (tup_lt v F)
theorem isi_al {K : PySem.W.Frag} {pp : Option Addr} {b : Bool} {cs : List V} {us : List Value} {Rz' : List (V → Hp → Prop)} (hc : Paired ClsV cs us) (hk : PySem.W.kitAny K (.type "list") us = some b) (hl : cs.map IsC = Rz' := by rfl) : RC pp (rIsiT K) [IsAL, TupOf (Args Rz')] (IsB b) := rc_isiT (t := .type "list") hc hk (fun v F H e ⟨a, vs, ev, h⟩ => by
  subst ev
  exact .base (.lst (e _ _ h))) hl
theorem isi_at {K : PySem.W.Frag} {pp : Option Addr} {b : Bool} {cs : List V} {us : List Value} {Rz' : List (V → Hp → Prop)} (hc : Paired ClsV cs us) (hk : PySem.W.kitAny K (.type "tuple") us = some b) (hl : cs.map IsC = Rz' := by rfl) : RC pp (rIsiT K) [IsAT, TupOf (Args Rz')] (IsB b) := rc_isiT (t := .type "tuple") hc hk (fun v F H e ⟨a, vs, ev, h⟩ => by
  subst ev
  exact .base (.tup (e _ _ h))) hl
theorem isi_at1 {K : PySem.W.Frag} {pp : Option Addr} : RC pp (rIsi K) [IsAT, IsC (.ty "tuple")] (IsB true) := rc_isi (t := .type "tuple") (.ty "tuple") (kit_ty (by decide +kernel)) fun v F H e ⟨a, vs, ev, h⟩ => by
  subst ev
  exact .base (.tup (e _ _ h))
theorem js_frz {X : Cx} {E : En} {G : List Sl} {i : Nat} {R : List V → Hp → Prop} {st : List Stmt} {Rt : V → Hp → Hp → Prop} {N : List Sl → Prop} (hG : G[i]? = some (.mt R)) (k : PSs X st (tS E (G.set i (.fz (LstOf R))) Rt N)) : PSs X st (tS E G Rt N) := PSs_imp k fun D σ H ⟨F, S, kn, kr⟩ => by
  obtain ⟨p, vs, e, h1, h2, h3, h4, S'⟩ := S.freeze hG
  exact ⟨_, S', fun G' σ' F' H' n S2 ex => kn G' σ' F' H' n S2 ((Ex.new h1).trans ex), kr⟩
end Gw
set_option maxHeartbeats 4000000
/-! The head's facts, with functions found by a path (a property's getter, a classmethod's def) and one more Bool. -/
namespace Gw
open PySem PySem.Spec PyProof.Rows L2 He
def fnWa (K : PySem.W.Frag) (a : Addr) : FnW := match K.lookup a with
  | some ⟨_, _, .func fd, _⟩ => some (fd.name, fd.qualname, fd.params, fd.body, fd.scope, fd.globals, fd.closure, fd.builtins)
  | _ => none
structure DefA where
  path : PySem.W.Frag → Addr
  name : Str
  qual : Str
  params : Arguments
  body : List Stmt
  scope : Scope
def DefA.val (d : DefA) : FnW := some (d.name, d.qual, d.params, .stmts d.body, d.scope, mainGlobals, [], builtinsNs)
def DefA.ok (K : PySem.W.Frag) (d : DefA) : Bool := PySem.W.keepIn K (.ref (d.path K)) && (match K.lookup (d.path K) with
  | some ⟨_, _, .func fd, _⟩ => PySem.W.codeIn K fd.code d.qual && (dflB K fd.defaults [] && kwdB K fd.kwdefaults [])
  | _ => false)
theorem DefA.funD {K : PySem.W.Frag} {d : DefA} (e : fnWa K (d.path K) = d.val) (c : d.ok K = true) : ∃ fd, FunD K d.name d.qual d.params d.body d.scope [] [] (d.path K) fd := by
  obtain ⟨kp, c2⟩ := ba c
  unfold fnWa at e
  cases q : K.lookup (d.path K) with
  | none =>
    rw [q] at c2
    cases c2
  | some o =>
    obtain ⟨oc, od, dt, osl⟩ := o
    rw [q] at c2 e
    cases dt with
    | func fd =>
      obtain ⟨n1, n2, n3, n4, n5, n6, n7, n8, n9, n10, n11, n12, n13, n14, n15⟩ := fd
      have e2 : (some (n1, n2, n3, n4, n5, n6, n7, n15) : FnW) = some (d.name, d.qual, d.params, .stmts d.body, d.scope, mainGlobals, [], builtinsNs) := e
      simp only [Option.some.injEq, Prod.mk.injEq] at e2
      obtain ⟨h1, h2, h3, h4, h5, h6, h7, h8⟩ := e2
      subst h1 h2 h3 h4 h5 h6 h7 h8
      have c3 : (PySem.W.codeIn K n13 d.qual && (dflB K n8 [] && kwdB K n9 [])) = true := c2
      obtain ⟨k1, k2⟩ := ba c3
      obtain ⟨k3, k4⟩ := ba k2
      exact ⟨_, ⟨oc, od, n8, n9, n10, n11, n12, n13, n14, osl, rfl, q, k1, dflB_ok k3, kwdB_ok k4⟩, kp⟩
    | _ => cases c2
abbrev AlG : Type := AlD × Bool × List FnW
def obsA (fa : List Fa) (fn : List DefD) (da : List DefA) (ex : PySem.W.Frag → Bool) (K : PySem.W.Frag) : AlG := (obsD fa fn K, ex K && da.all fun d => d.ok K, da.map fun d => fnWa K (d.path K))
def valA (fn : List DefD) (da : List DefA) : AlG := (valD fn, true, da.map DefA.val)
def SaysA (fa : List Fa) (fn : List DefD) (da : List DefA) (ex : PySem.W.Frag → Bool) (K : PySem.W.Frag) : Prop := obsA fa fn da ex K = valA fn da
def obsAG (n : Nat) (fa : List Fa) (fn : List DefD) (da : List DefA) (ex : PySem.W.Frag → Bool) (g : Addr → Option Obj) : AlG := obsA fa fn da ex (frG g (List.range n))
def hookA (n : Nat) (fa : List Fa) (fn : List DefD) (da : List DefA) (ex : PySem.W.Frag → Bool) : PySem.W.Hook where
  α := AlG
  obs := fun s => obsAG n fa fn da ex s.heap.get?
  val := fun _ => valA fn da
  says := fun _ h => ∃ K : PySem.W.Frag, K.In h ∧ SaysA fa fn da ex K
  of := fun _ _ e => ⟨_, frG_in, e⟩
  keeps := fun _ _ _ ⟨K, hK, c⟩ k => ⟨K, PySem.W.Frag.In.keeps hK k, c⟩
theorem obsAG_eq {n : Nat} {fa : List Fa} {fn : List DefD} {da : List DefA} {ex : PySem.W.Frag → Bool} {g : Addr → Option Obj} {s : Shared} (h : ∀ a, g a = s.heap.get? a) : obsAG n fa fn da ex g = (hookA n fa fn da ex).obs s := by
  have e : g = s.heap.get? := funext h
  rw [e] <;> rfl
section
variable {fa : List Fa} {fn : List DefD} {da : List DefA} {ex : PySem.W.Frag → Bool} {K : PySem.W.Frag}
theorem SaysA.d (c : SaysA fa fn da ex K) : SaysD fa fn K := congrArg (fun z : AlG => z.1) c
theorem SaysA.x (c : SaysA fa fn da ex K) : ex K = true := (ba (show (ex K && da.all fun d => d.ok K) = true from congrArg (fun z : AlG => z.2.1) c)).1
theorem SaysA.a (c : SaysA fa fn da ex K) (i : Nat) {d : DefA} (h : da[i]? = some d := by rfl) : ∃ fd, FunD K d.name d.qual d.params d.body d.scope [] [] (d.path K) fd := by
  have c2 := (ba (show (ex K && da.all fun d => d.ok K) = true from congrArg (fun z : AlG => z.2.1) c)).2
  have e : da.map (fun d => fnWa K (d.path K)) = da.map DefA.val := congrArg (fun z : AlG => z.2.2) c
  have e2 : (da.map fun d => fnWa K (d.path K))[i]? = (da.map DefA.val)[i]? := by rw [e]
  rw [List.getElem?_map, List.getElem?_map, h] at e2
  exact DefA.funD (Option.some.inj e2) (List.all_eq_true.mp c2 d (List.mem_of_getElem? h))
end
/-! ### facts of the class Ratio -/
def recAd (K : PySem.W.Frag) (p : Addr) (T : String) : Addr := match PySem.W.recIn K p T with
  | some (.ref g :: _) => g
  | _ => 0
def recB (K : PySem.W.Frag) (p : Addr) (T : String) : Bool := match PySem.W.recIn K p T with
  | some (.ref _ :: _) => true
  | _ => false
theorem rec_ok {K : PySem.W.Frag} {p : Addr} {T : String} (h : recB K p T = true) : ∃ rest, PySem.W.recIn K p T = some (.ref (recAd K p T) :: rest) := by
  unfold recB at h
  unfold recAd
  cases e : PySem.W.recIn K p T with
  | none => rw [e] at h; cases h
  | some l =>
    rw [e] at h
    cases l with
    | nil => cases h
    | cons v r =>
      cases v with
      | ref g => exact ⟨r, rfl⟩
      | _ => cases h
def cRat (K : PySem.W.Frag) : Addr := ga K "Ratio"
def xGlo (K : PySem.W.Frag) : Bool := eqO (PySem.W.nsIn K mainGlobals "gcd") (some (some (.builtin "math.gcd"))) && eqO (PySem.W.nsIn K mainGlobals "lcm") (some (some (.builtin "math.lcm")))
def xRat (K : PySem.W.Frag) : Bool := eqO (PySem.W.findIn K (.ref (cRat K)) "__class__") (some (some (.builtin "object.__class__"))) && (eqO (PySem.W.specialIn K (.builtin "object.__class__") "__get__") (some (some (.builtin "getset_descriptor.__get__"))) &&
  (decide (PySem.W.takesIn K (.builtin "object.__class__") = some true) && (decide (PySem.W.mroIn K (cRat K) (.type "object") = some true) && (decide (PySem.W.kitOne K (.ref (cRat K)) (.ref (cRat K)) = some true) &&
  (decide (PySem.W.kitOne K (.type "int") (.ref (cRat K)) = some false) && decide (PySem.W.kitOne K (.ref (cRat K)) (.type "int") = some false))))))
def xOp (K : PySem.W.Frag) (op : Operator) (m r : Str) : Bool := PySem.W.selfFirst K (cRat K) && (eqO (PySem.W.findIn K (.ref (cRat K)) (PySem.dunder op.info.2)) (some (some (.ref (ma K (cRat K) m)))) && (PySem.W.isFn K (.ref (ma K (cRat K) m)) &&
  (eqO (PySem.W.findIn K (.ref (cRat K)) (dunderR op.info.2)) (some (some (.ref (ma K (cRat K) r)))) && (PySem.W.isFn K (.ref (ma K (cRat K) r)) && ((PySem.W.findIn K (.type "int") (PySem.dunder op.info.2)).isSome && ((PySem.W.findIn K (.type "int") (dunderR op.info.2)).isSome &&
  (decide (PySem.W.subIn K (.type "int") (.ref (cRat K)) = some false) && decide (PySem.W.subIn K (.ref (cRat K)) (.type "int") = some false))))))))
def xEq (K : PySem.W.Frag) : Bool := eqO (PySem.W.findIn K (.ref (cRat K)) "__eq__") (some (some (.ref (ma K (cRat K) "__eq__")))) && (PySem.W.isFn K (.ref (ma K (cRat K) "__eq__")) && (eqO (PySem.W.findIn K (.ref (cRat K)) "__ne__") (some (some (.builtin "object.__ne__"))) && decide (PySem.W.subIn K (.ref (cRat K)) (.type "object") = some true)))
def xProp (K : PySem.W.Frag) (m : Str) : Bool := eqO (PySem.W.findIn K (.ref (cRat K)) m) (some (some (.ref (ma K (cRat K) m)))) && (eqO (PySem.W.specialIn K (.ref (ma K (cRat K) m)) "__get__") (some (some (.builtin "property.__get__"))) && (decide (PySem.W.takesIn K (.ref (ma K (cRat K) m)) = some true) && recB K (ma K (cRat K) m) "property"))
def xCm (K : PySem.W.Frag) (m : Str) : Bool := PySem.W.readsIn K (cRat K) (.type "type") && (eqO (PySem.W.specialIn K (.ref (cRat K)) "__getattribute__") (some (some (.builtin "type.__getattribute__"))) && ((match PySem.W.findCls K (.ref (cRat K)) (.type "type") m with
  | some (.get g p o c) => decide (g = .builtin "classmethod.__get__") && (decide (p = .ref (ma K (cRat K) m)) && (decide (o = .none) && decide (c = .ref (cRat K))))
  | _ => false) && (recB K (ma K (cRat K) m) "classmethod" && PySem.W.fnIn K (recAd K (ma K (cRat K) m) "classmethod"))))
section
variable {K : PySem.W.Frag}
theorem op_ok {op : Operator} {m r : Str} (h : xOp K op m r = true) : OwnI K (cRat K) (ma K (cRat K) m) (ma K (cRat K) r) op := by
  obtain ⟨h1, h⟩ := ba h
  obtain ⟨h2, h⟩ := ba h
  obtain ⟨h3, h⟩ := ba h
  obtain ⟨h4, h⟩ := ba h
  obtain ⟨h5, h⟩ := ba h
  obtain ⟨h6, h⟩ := ba h
  obtain ⟨h7, h⟩ := ba h
  obtain ⟨h8, h9⟩ := ba h
  exact { sf := h1, at_ := eqO_ok h2, fn := h3, rat := eqO_ok h4, gn := h5, i1 := Option.isSome_iff_exists.mp h6, i2 := Option.isSome_iff_exists.mp h7, s1 := of_decide_eq_true h8, s2 := of_decide_eq_true h9 }
theorem eq_ok (h : xEq K = true) : PySem.W.findIn K (.ref (cRat K)) "__eq__" = some (some (.ref (ma K (cRat K) "__eq__"))) ∧ PySem.W.isFn K (.ref (ma K (cRat K) "__eq__")) = true ∧ PySem.W.findIn K (.ref (cRat K)) "__ne__" = some (some (.builtin "object.__ne__")) ∧ PySem.W.subIn K (.ref (cRat K)) (.type "object") = some true := by
  obtain ⟨h1, h⟩ := ba h
  obtain ⟨h2, h⟩ := ba h
  obtain ⟨h3, h4⟩ := ba h
  exact ⟨eqO_ok h1, h2, eqO_ok h3, of_decide_eq_true h4⟩
theorem prop_ok {m : Str} (h : xProp K m = true) : PropOf K (cRat K) m (ma K (cRat K) m) (recAd K (ma K (cRat K) m) "property") := by
  obtain ⟨h1, h⟩ := ba h
  obtain ⟨h2, h⟩ := ba h
  obtain ⟨h3, h4⟩ := ba h
  exact ⟨eqO_ok h1, eqO_ok h2, of_decide_eq_true h3, rec_ok h4⟩
theorem cm_ok {m : Str} (h : xCm K m = true) : ClX.CRead K (cRat K) (.type "type") ∧ ClX.CMet K (cRat K) (.type "type") m (ma K (cRat K) m) (recAd K (ma K (cRat K) m) "classmethod") := by
  obtain ⟨h1, h⟩ := ba h
  obtain ⟨h2, h⟩ := ba h
  obtain ⟨h3, h⟩ := ba h
  obtain ⟨h4, h5⟩ := ba h
  refine ⟨⟨h1, eqO_ok h2⟩, ⟨?_, rec_ok h4, h5⟩⟩
  cases e : PySem.W.findCls K (.ref (cRat K)) (.type "type") m with
  | none => rw [e] at h3; cases h3
  | some r =>
    rw [e] at h3
    cases r with
    | get g p o c =>
      obtain ⟨a1, h3⟩ := ba h3
      obtain ⟨a2, h3⟩ := ba h3
      obtain ⟨a3, a4⟩ := ba h3
      rw [of_decide_eq_true a1, of_decide_eq_true a2, of_decide_eq_true a3, of_decide_eq_true a4]
    | _ => cases h3
theorem rat_ok (h : xRat K = true) (hc : Cls K (cRat K)) (ht : NoAttr K (cRat K) kTop) (hb : NoAttr K (cRat K) kBot) : RatF K (cRat K) := by
  obtain ⟨h1, h⟩ := ba h
  obtain ⟨h2, h⟩ := ba h
  obtain ⟨h3, h⟩ := ba h
  obtain ⟨h4, h⟩ := ba h
  obtain ⟨h5, h⟩ := ba h
  obtain ⟨h6, h7⟩ := ba h
  exact ⟨hc, ht, hb, eqO_ok h1, eqO_ok h2, of_decide_eq_true h3, of_decide_eq_true h4, of_decide_eq_true h5, of_decide_eq_true h6, of_decide_eq_true h7⟩
end
end Gw
set_option maxHeartbeats 4000000
namespace Gw
open PySem PySem.Spec PyProof.Rows L2

abbrev prg : Program := PySem.Challenge.pw_walkworths_k83_whole_tables_of_guessed_w
def top (i : Nat) : Stmt := prg.main.body.getD i (.Pass ⟨0, 0, 0, 0⟩)
def mth (i j : Nat) : Stmt := match top i with
  | .ClassDef _ _ _ b _ _ _ _ _ _ _ => b.getD j (.Pass ⟨0, 0, 0, 0⟩)
  | _ => .Pass ⟨0, 0, 0, 0⟩
abbrev FnP (K : PySem.W.Frag) (x : Str) (st : Stmt) (f : Addr) (fd : FuncData) : Prop := FunD K x x (defArgs st) (defBody st) (defScope st) [] [] f fd
abbrev FnM (K : PySem.W.Frag) (x q : Str) (st : Stmt) (f : Addr) (fd : FuncData) : Prop := FunD K x q (defArgs st) (defBody st) (defScope st) [] [] f fd

abbrev st__wall : Stmt := top 1
abbrev N__wall : List Str := ["k"]
theorem sc__wall : FnScope N__wall ["k"] (defScope st__wall) := ⟨rfl, rfl, rfl, by decide +kernel, rfl, by decide +kernel, by decide +kernel⟩
abbrev st_is_integer : Stmt := top 14
abbrev N_is_integer : List Str := ["value"]
theorem sc_is_integer : FnScope N_is_integer ["value"] (defScope st_is_integer) := ⟨rfl, rfl, rfl, by decide +kernel, rfl, by decide +kernel, by decide +kernel⟩
abbrev st_is_list : Stmt := top 15
abbrev N_is_list : List Str := ["value"]
theorem sc_is_list : FnScope N_is_list ["value"] (defScope st_is_list) := ⟨rfl, rfl, rfl, by decide +kernel, rfl, by decide +kernel, by decide +kernel⟩
abbrev st_want_at_most : Stmt := top 16
abbrev N_want_at_most : List Str := ["what", "limit", "number"]
theorem sc_want_at_most : FnScope N_want_at_most ["what", "limit", "number"] (defScope st_want_at_most) := ⟨rfl, rfl, rfl, by decide +kernel, rfl, by decide +kernel, by decide +kernel⟩
abbrev st_digits_of : Stmt := top 19
abbrev N_digits_of : List Str := ["number", "left", "told", "part", "sign"]
theorem sc_digits_of : FnScope N_digits_of ["number"] (defScope st_digits_of) := ⟨rfl, rfl, rfl, by decide +kernel, rfl, by decide +kernel, by decide +kernel⟩
abbrev st_divisor_of : Stmt := top 20
abbrev N_divisor_of : List Str := ["one", "other"]
theorem sc_divisor_of : FnScope N_divisor_of ["one", "other"] (defScope st_divisor_of) := ⟨rfl, rfl, rfl, by decide +kernel, rfl, by decide +kernel, by decide +kernel⟩
abbrev st_R__init__ : Stmt := mth 21 0
abbrev N_R__init__ : List Str := ["self", "top", "bottom", "common"]
theorem sc_R__init__ : FnScope N_R__init__ ["self", "top", "bottom"] (defScope st_R__init__) := ⟨rfl, rfl, rfl, by decide +kernel, rfl, by decide +kernel, by decide +kernel⟩
abbrev st_Rtop : Stmt := mth 21 1
abbrev N_Rtop : List Str := ["self"]
theorem sc_Rtop : FnScope N_Rtop ["self"] (defScope st_Rtop) := ⟨rfl, rfl, rfl, by decide +kernel, rfl, by decide +kernel, by decide +kernel⟩
abbrev st_Rbottom : Stmt := mth 21 2
abbrev N_Rbottom : List Str := ["self"]
theorem sc_Rbottom : FnScope N_Rbottom ["self"] (defScope st_Rbottom) := ⟨rfl, rfl, rfl, by decide +kernel, rfl, by decide +kernel, by decide +kernel⟩
abbrev st_Rsign : Stmt := mth 21 3
abbrev N_Rsign : List Str := ["self"]
theorem sc_Rsign : FnScope N_Rsign ["self"] (defScope st_Rsign) := ⟨rfl, rfl, rfl, by decide +kernel, rfl, by decide +kernel, by decide +kernel⟩
abbrev st_Ris_whole : Stmt := mth 21 4
abbrev N_Ris_whole : List Str := ["self"]
theorem sc_Ris_whole : FnScope N_Ris_whole ["self"] (defScope st_Ris_whole) := ⟨rfl, rfl, rfl, by decide +kernel, rfl, by decide +kernel, by decide +kernel⟩
abbrev st_Rtotal : Stmt := mth 21 5
abbrev N_Rtotal : List Str := ["cls", "numbers", "number"]
theorem sc_Rtotal : FnScope N_Rtotal ["cls", "numbers"] (defScope st_Rtotal) := ⟨rfl, rfl, rfl, by decide +kernel, rfl, by decide +kernel, by decide +kernel⟩
abbrev st_R__add__ : Stmt := mth 21 6
abbrev N_R__add__ : List Str := ["self", "other", "top", "bottom"]
theorem sc_R__add__ : FnScope N_R__add__ ["self", "other"] (defScope st_R__add__) := ⟨rfl, rfl, rfl, by decide +kernel, rfl, by decide +kernel, by decide +kernel⟩
abbrev st_R__radd__ : Stmt := mth 21 7
abbrev N_R__radd__ : List Str := ["self", "other", "top", "bottom"]
theorem sc_R__radd__ : FnScope N_R__radd__ ["self", "other"] (defScope st_R__radd__) := ⟨rfl, rfl, rfl, by decide +kernel, rfl, by decide +kernel, by decide +kernel⟩
abbrev st_R__sub__ : Stmt := mth 21 8
abbrev N_R__sub__ : List Str := ["self", "other", "top", "bottom"]
theorem sc_R__sub__ : FnScope N_R__sub__ ["self", "other"] (defScope st_R__sub__) := ⟨rfl, rfl, rfl, by decide +kernel, rfl, by decide +kernel, by decide +kernel⟩
abbrev st_R__rsub__ : Stmt := mth 21 9
abbrev N_R__rsub__ : List Str := ["self", "other", "top", "bottom"]
theorem sc_R__rsub__ : FnScope N_R__rsub__ ["self", "other"] (defScope st_R__rsub__) := ⟨rfl, rfl, rfl, by decide +kernel, rfl, by decide +kernel, by decide +kernel⟩
abbrev st_R__mul__ : Stmt := mth 21 10
abbrev N_R__mul__ : List Str := ["self", "other", "top", "bottom"]
theorem sc_R__mul__ : FnScope N_R__mul__ ["self", "other"] (defScope st_R__mul__) := ⟨rfl, rfl, rfl, by decide +kernel, rfl, by decide +kernel, by decide +kernel⟩
abbrev st_R__rmul__ : Stmt := mth 21 11
abbrev N_R__rmul__ : List Str := ["self", "other", "top", "bottom"]
theorem sc_R__rmul__ : FnScope N_R__rmul__ ["self", "other"] (defScope st_R__rmul__) := ⟨rfl, rfl, rfl, by decide +kernel, rfl, by decide +kernel, by decide +kernel⟩
abbrev st_R__neg__ : Stmt := mth 21 12
abbrev N_R__neg__ : List Str := ["self"]
theorem sc_R__neg__ : FnScope N_R__neg__ ["self"] (defScope st_R__neg__) := ⟨rfl, rfl, rfl, by decide +kernel, rfl, by decide +kernel, by decide +kernel⟩
abbrev st_Rover : Stmt := mth 21 13
abbrev N_Rover : List Str := ["self", "other", "top", "bottom"]
theorem sc_Rover : FnScope N_Rover ["self", "other"] (defScope st_Rover) := ⟨rfl, rfl, rfl, by decide +kernel, rfl, by decide +kernel, by decide +kernel⟩
abbrev st_Rsize : Stmt := mth 21 14
abbrev N_Rsize : List Str := ["self"]
theorem sc_Rsize : FnScope N_Rsize ["self"] (defScope st_Rsize) := ⟨rfl, rfl, rfl, by decide +kernel, rfl, by decide +kernel, by decide +kernel⟩
abbrev st_Ris_below : Stmt := mth 21 15
abbrev N_Ris_below : List Str := ["self", "other", "top", "bottom"]
theorem sc_Ris_below : FnScope N_Ris_below ["self", "other"] (defScope st_Ris_below) := ⟨rfl, rfl, rfl, by decide +kernel, rfl, by decide +kernel, by decide +kernel⟩
abbrev st_Ris_at_most : Stmt := mth 21 16
abbrev N_Ris_at_most : List Str := ["self", "other"]
theorem sc_Ris_at_most : FnScope N_Ris_at_most ["self", "other"] (defScope st_Ris_at_most) := ⟨rfl, rfl, rfl, by decide +kernel, rfl, by decide +kernel, by decide +kernel⟩
abbrev st_R__eq__ : Stmt := mth 21 17
abbrev N_R__eq__ : List Str := ["self", "other"]
theorem sc_R__eq__ : FnScope N_R__eq__ ["self", "other"] (defScope st_R__eq__) := ⟨rfl, rfl, rfl, by decide +kernel, rfl, by decide +kernel, by decide +kernel⟩
abbrev st_R__str__ : Stmt := mth 21 18
abbrev N_R__str__ : List Str := ["self"]
theorem sc_R__str__ : FnScope N_R__str__ ["self"] (defScope st_R__str__) := ⟨rfl, rfl, rfl, by decide +kernel, rfl, by decide +kernel, by decide +kernel⟩
abbrev st_R__repr__ : Stmt := mth 21 19
abbrev N_R__repr__ : List Str := ["self"]
theorem sc_R__repr__ : FnScope N_R__repr__ ["self"] (defScope st_R__repr__) := ⟨rfl, rfl, rfl, by decide +kernel, rfl, by decide +kernel, by decide +kernel⟩
abbrev st_told_pair : Stmt := top 22
abbrev N_told_pair : List Str := ["value"]
theorem sc_told_pair : FnScope N_told_pair ["value"] (defScope st_told_pair) := ⟨rfl, rfl, rfl, by decide +kernel, rfl, by decide +kernel, by decide +kernel⟩
abbrev st_is_number : Stmt := top 23
abbrev N_is_number : List Str := ["value"]
theorem sc_is_number : FnScope N_is_number ["value"] (defScope st_is_number) := ⟨rfl, rfl, rfl, by decide +kernel, rfl, by decide +kernel, by decide +kernel⟩
abbrev st_ratio_of : Stmt := top 24
abbrev N_ratio_of : List Str := ["number"]
theorem sc_ratio_of : FnScope N_ratio_of ["number"] (defScope st_ratio_of) := ⟨rfl, rfl, rfl, by decide +kernel, rfl, by decide +kernel, by decide +kernel⟩
abbrev st_want_number : Stmt := top 25
abbrev N_want_number : List Str := ["value"]
theorem sc_want_number : FnScope N_want_number ["value"] (defScope st_want_number) := ⟨rfl, rfl, rfl, by decide +kernel, rfl, by decide +kernel, by decide +kernel⟩
abbrev st_wholes : Stmt := top 26
abbrev N_wholes : List Str := ["ratios", "bottom", "ratio"]
theorem sc_wholes : FnScope N_wholes ["ratios"] (defScope st_wholes) := ⟨rfl, rfl, rfl, by decide +kernel, rfl, by decide +kernel, by decide +kernel⟩
abbrev st_total_of : Stmt := top 27
abbrev N_total_of : List Str := ["ratios", "found", "ratio"]
theorem sc_total_of : FnScope N_total_of ["ratios"] (defScope st_total_of) := ⟨rfl, rfl, rfl, by decide +kernel, rfl, by decide +kernel, by decide +kernel⟩
abbrev st_ints_of : Stmt := top 29
abbrev N_ints_of : List Str := ["rows", "row"]
theorem sc_ints_of : FnScope N_ints_of ["rows"] (defScope st_ints_of) := ⟨rfl, rfl, rfl, by decide +kernel, rfl, by decide +kernel, by decide +kernel⟩
abbrev st_bare_row : Stmt := top 30
abbrev N_bare_row : List Str := ["row", "common", "number"]
theorem sc_bare_row : FnScope N_bare_row ["row"] (defScope st_bare_row) := ⟨rfl, rfl, rfl, by decide +kernel, rfl, by decide +kernel, by decide +kernel⟩
abbrev st_cleared : Stmt := top 31
abbrev N_cleared : List Str := ["row", "head", "place", "far", "near"]
theorem sc_cleared : FnScope N_cleared ["row", "head", "place"] (defScope st_cleared) := ⟨rfl, rfl, rfl, by decide +kernel, rfl, by decide +kernel, by decide +kernel⟩
abbrev st_first_at : Stmt := top 32
abbrev N_first_at : List Str := ["rows", "place", "at", "row"]
theorem sc_first_at : FnScope N_first_at ["rows", "place"] (defScope st_first_at) := ⟨rfl, rfl, rfl, by decide +kernel, rfl, by decide +kernel, by decide +kernel⟩
abbrev st_headed_row : Stmt := top 33
abbrev N_headed_row : List Str := ["row", "place", "found", "number"]
theorem sc_headed_row : FnScope N_headed_row ["row", "place"] (defScope st_headed_row) := ⟨rfl, rfl, rfl, by decide +kernel, rfl, by decide +kernel, by decide +kernel⟩
abbrev st_int_steps : Stmt := top 34
abbrev N_int_steps : List Str := ["rows", "left", "found", "place", "at", "head", "others", "row"]
theorem sc_int_steps : FnScope N_int_steps ["rows"] (defScope st_int_steps) := ⟨rfl, rfl, rfl, by decide +kernel, rfl, by decide +kernel, by decide +kernel⟩
abbrev st_head_of : Stmt := top 35
abbrev N_head_of : List Str := ["row", "place"]
theorem sc_head_of : FnScope N_head_of ["row"] (defScope st_head_of) := ⟨rfl, rfl, rfl, by decide +kernel, rfl, by decide +kernel, by decide +kernel⟩
abbrev st_told_rows : Stmt := top 36
abbrev N_told_rows : List Str := ["steps_now", "found", "row", "head", "number"]
theorem sc_told_rows : FnScope N_told_rows ["steps_now"] (defScope st_told_rows) := ⟨rfl, rfl, rfl, by decide +kernel, rfl, by decide +kernel, by decide +kernel⟩
abbrev st_steps_of : Stmt := top 37
abbrev N_steps_of : List Str := ["rows"]
theorem sc_steps_of : FnScope N_steps_of ["rows"] (defScope st_steps_of) := ⟨rfl, rfl, rfl, by decide +kernel, rfl, by decide +kernel, by decide +kernel⟩
abbrev st_are_numbers : Stmt := top 41
abbrev N_are_numbers : List Str := ["value", "many", "number"]
theorem sc_are_numbers : FnScope N_are_numbers ["value", "many"] (defScope st_are_numbers) := ⟨rfl, rfl, rfl, by decide +kernel, rfl, by decide +kernel, by decide +kernel⟩
abbrev st_is_table_of : Stmt := top 42
abbrev N_is_table_of : List Str := ["value", "many", "row"]
theorem sc_is_table_of : FnScope N_is_table_of ["value", "many"] (defScope st_is_table_of) := ⟨rfl, rfl, rfl, by decide +kernel, rfl, by decide +kernel, by decide +kernel⟩
abbrev st_told_table : Stmt := top 43
abbrev N_told_table : List Str := ["value", "number", "row"]
theorem sc_told_table : FnScope N_told_table ["value"] (defScope st_told_table) := ⟨rfl, rfl, rfl, by decide +kernel, rfl, by decide +kernel, by decide +kernel⟩
abbrev st_are_chances : Stmt := top 44
abbrev N_are_chances : List Str := ["row", "number"]
theorem sc_are_chances : FnScope N_are_chances ["row"] (defScope st_are_chances) := ⟨rfl, rfl, rfl, by decide +kernel, rfl, by decide +kernel, by decide +kernel⟩
abbrev st_want_proposal : Stmt := top 45
abbrev N_want_proposal : List Str := ["value", "rows", "row"]
theorem sc_want_proposal : FnScope N_want_proposal ["value"] (defScope st_want_proposal) := ⟨rfl, rfl, rfl, by decide +kernel, rfl, by decide +kernel, by decide +kernel⟩
abbrev st_want_weights : Stmt := top 46
abbrev N_want_weights : List Str := ["places", "value", "told", "number"]
theorem sc_want_weights : FnScope N_want_weights ["places", "value"] (defScope st_want_weights) := ⟨rfl, rfl, rfl, by decide +kernel, rfl, by decide +kernel, by decide +kernel⟩
abbrev st_is_part : Stmt := top 49
abbrev N_is_part : List Str := ["value", "number"]
theorem sc_is_part : FnScope N_is_part ["value"] (defScope st_is_part) := ⟨rfl, rfl, rfl, by decide +kernel, rfl, by decide +kernel, by decide +kernel⟩
abbrev st_guess_in : Stmt := top 50
abbrev N_guess_in : List Str := ["value", "found", "chance", "far", "near", "part", "worth"]
theorem sc_guess_in : FnScope N_guess_in ["value"] (defScope st_guess_in) := ⟨rfl, rfl, rfl, by decide +kernel, rfl, by decide +kernel, by decide +kernel⟩
abbrev st_want_guesses : Stmt := top 53
abbrev N_want_guesses : List Str := ["places", "value", "found", "guess"]
theorem sc_want_guesses : FnScope N_want_guesses ["places", "value"] (defScope st_want_guesses) := ⟨rfl, rfl, rfl, by decide +kernel, rfl, by decide +kernel, by decide +kernel⟩
abbrev st_standings_of : Stmt := top 54
abbrev N_standings_of : List Str := ["guesses", "found", "place", "guess", "chance", "worth"]
theorem sc_standings_of : FnScope N_standings_of ["guesses"] (defScope st_standings_of) := ⟨rfl, rfl, rfl, by decide +kernel, rfl, by decide +kernel, by decide +kernel⟩
abbrev st_flow_between : Stmt := top 55
abbrev N_flow_between : List Str := ["rows", "weights", "near", "far", "here", "there"]
theorem sc_flow_between : FnScope N_flow_between ["rows", "weights", "near", "far"] (defScope st_flow_between) := ⟨rfl, rfl, rfl, by decide +kernel, rfl, by decide +kernel, by decide +kernel⟩
abbrev st_flows_of_standings : Stmt := top 56
abbrev N_flows_of_standings : List Str := ["rows", "weights", "standings", "found", "at", "near", "row", "spot", "far"]
theorem sc_flows_of_standings : FnScope N_flows_of_standings ["rows", "weights", "standings"] (defScope st_flows_of_standings) := ⟨rfl, rfl, rfl, by decide +kernel, rfl, by decide +kernel, by decide +kernel⟩
abbrev st_is_joined : Stmt := top 57
abbrev N_is_joined : List Str := ["flows", "met", "late", "at", "more", "flow", "spot"]
theorem sc_is_joined : FnScope N_is_joined ["flows"] (defScope st_is_joined) := ⟨rfl, rfl, rfl, by decide +kernel, rfl, by decide +kernel, by decide +kernel⟩
abbrev st_worths_ahead : Stmt := top 58
abbrev N_worths_ahead : List Str := ["flows", "goals", "many", "rows", "at", "flow", "row", "found", "number", "head", "ahead", "goal", "one"]
theorem sc_worths_ahead : FnScope N_worths_ahead ["flows", "goals"] (defScope st_worths_ahead) := ⟨rfl, rfl, rfl, by decide +kernel, rfl, by decide +kernel, by decide +kernel⟩
abbrev st_table_of_standings : Stmt := top 59
abbrev N_table_of_standings : List Str := ["weights", "standings", "flows", "total", "shares", "goals", "place", "share", "aheads", "found", "row", "spot", "ahead", "both", "goal", "one", "weight", "worth"]
theorem sc_table_of_standings : FnScope N_table_of_standings ["weights", "standings", "flows"] (defScope st_table_of_standings) := ⟨rfl, rfl, rfl, by decide +kernel, rfl, by decide +kernel, by decide +kernel⟩
abbrev st_guessed_table : Stmt := top 60
abbrev N_guessed_table : List Str := ["proposal", "weights", "guesses", "rows", "told", "standings", "flows"]
theorem sc_guessed_table : FnScope N_guessed_table ["proposal", "weights", "guesses"] (defScope st_guessed_table) := ⟨rfl, rfl, rfl, by decide +kernel, rfl, by decide +kernel, by decide +kernel⟩
abbrev st__law_pot : Stmt := top 62
abbrev N__law_pot : List Str := ["script", "k", "cell"]
theorem sc__law_pot : FnScope N__law_pot ["script", "k"] (defScope st__law_pot) := ⟨rfl, rfl, rfl, by decide +kernel, rfl, by decide +kernel, by decide +kernel⟩
abbrev st__law_draw : Stmt := top 63
abbrev N__law_draw : List Str := ["pot", "size", "digit"]
theorem sc__law_draw : FnScope N__law_draw ["pot", "size"] (defScope st__law_draw) := ⟨rfl, rfl, rfl, by decide +kernel, rfl, by decide +kernel, by decide +kernel⟩
abbrev st__law_pick : Stmt := top 64
abbrev N__law_pick : List Str := ["pot", "some"]
theorem sc__law_pick : FnScope N__law_pick ["pot", "some"] (defScope st__law_pick) := ⟨rfl, rfl, rfl, by decide +kernel, rfl, by decide +kernel, by decide +kernel⟩
abbrev st__law_proposal : Stmt := top 65
abbrev N__law_proposal : List Str := ["pot", "places", "rows", "least", "place", "row", "other", "one"]
theorem sc__law_proposal : FnScope N__law_proposal ["pot", "places"] (defScope st__law_proposal) := ⟨rfl, rfl, rfl, by decide +kernel, rfl, by decide +kernel, by decide +kernel⟩
abbrev st__law_weights : Stmt := top 66
abbrev N__law_weights : List Str := ["pot", "places", "found", "place"]
theorem sc__law_weights : FnScope N__law_weights ["pot", "places"] (defScope st__law_weights) := ⟨rfl, rfl, rfl, by decide +kernel, rfl, by decide +kernel, by decide +kernel⟩
abbrev st__law_two : Stmt := top 67
abbrev N__law_two : List Str := ["pot", "half", "third", "sure", "near", "far", "low", "high"]
theorem sc__law_two : FnScope N__law_two ["pot"] (defScope st__law_two) := ⟨rfl, rfl, rfl, by decide +kernel, rfl, by decide +kernel, by decide +kernel⟩
abbrev st__law_is_joined : Stmt := top 68
abbrev N__law_is_joined : List Str := ["rows", "met", "turn", "at", "here"]
theorem sc__law_is_joined : FnScope N__law_is_joined ["rows"] (defScope st__law_is_joined) := ⟨rfl, rfl, rfl, by decide +kernel, rfl, by decide +kernel, by decide +kernel⟩
abbrev st__law_standings : Stmt := top 69
abbrev N__law_standings : List Str := ["guesses", "found", "place", "guess", "chance", "worth"]
theorem sc__law_standings : FnScope N__law_standings ["guesses"] (defScope st__law_standings) := ⟨rfl, rfl, rfl, by decide +kernel, rfl, by decide +kernel, by decide +kernel⟩
abbrev st__law_goes : Stmt := top 70
abbrev N__law_goes : List Str := ["rows", "weights", "near", "far", "there", "back", "quotient"]
theorem sc__law_goes : FnScope N__law_goes ["rows", "weights", "near", "far"] (defScope st__law_goes) := ⟨rfl, rfl, rfl, by decide +kernel, rfl, by decide +kernel, by decide +kernel⟩
abbrev st__law_chances : Stmt := top 71
abbrev N__law_chances : List Str := ["rows", "weights", "standings", "found", "at", "near", "row", "far", "to"]
theorem sc__law_chances : FnScope N__law_chances ["rows", "weights", "standings"] (defScope st__law_chances) := ⟨rfl, rfl, rfl, by decide +kernel, rfl, by decide +kernel, by decide +kernel⟩
abbrev st__law_shares : Stmt := top 72
abbrev N__law_shares : List Str := ["weights", "standings", "chance", "place", "worth"]
theorem sc__law_shares : FnScope N__law_shares ["weights", "standings"] (defScope st__law_shares) := ⟨rfl, rfl, rfl, by decide +kernel, rfl, by decide +kernel, by decide +kernel⟩
abbrev st__law_solved : Stmt := top 73
abbrev N__law_solved : List Str := ["rows", "goals", "at", "row", "left", "place", "spot", "head", "cleared_v", "goal", "one", "two"]
theorem sc__law_solved : FnScope N__law_solved ["rows", "goals"] (defScope st__law_solved) := ⟨rfl, rfl, rfl, by decide +kernel, rfl, by decide +kernel, by decide +kernel⟩
abbrev st__law_three : Stmt := top 74
abbrev N__law_three : List Str := ["pot", "near", "some"]
theorem sc__law_three : FnScope N__law_three ["pot"] (defScope st__law_three) := ⟨rfl, rfl, rfl, by decide +kernel, rfl, by decide +kernel, by decide +kernel⟩
abbrev st__law_errors : Stmt := top 75
abbrev N__law_errors : List Str := ["rows", "shares", "functions", "many", "goals", "function", "share", "middle", "less", "found", "ahead", "worths", "total", "row", "next_one", "square", "at", "chance", "goal", "one", "to"]
theorem sc__law_errors : FnScope N__law_errors ["rows", "shares", "functions"] (defScope st__law_errors) := ⟨rfl, rfl, rfl, by decide +kernel, rfl, by decide +kernel, by decide +kernel⟩
abbrev st__law_worth : Stmt := top 76
abbrev N__law_worth : List Str := ["table", "row", "far", "line", "near", "number"]
theorem sc__law_worth : FnScope N__law_worth ["table", "row"] (defScope st__law_worth) := ⟨rfl, rfl, rfl, by decide +kernel, rfl, by decide +kernel, by decide +kernel⟩
abbrev st__law_handed : Stmt := top 77
abbrev N__law_handed : List Str := ["guess", "chance", "worth"]
theorem sc__law_handed : FnScope N__law_handed ["guess"] (defScope st__law_handed) := ⟨rfl, rfl, rfl, by decide +kernel, rfl, by decide +kernel, by decide +kernel⟩
abbrev st__law_told : Stmt := top 78
abbrev N__law_told : List Str := ["rows", "weights", "guesses", "told", "guess"]
theorem sc__law_told : FnScope N__law_told ["rows", "weights", "guesses"] (defScope st__law_told) := ⟨rfl, rfl, rfl, by decide +kernel, rfl, by decide +kernel, by decide +kernel⟩
abbrev st__law_right : Stmt := top 79
abbrev N__law_right : List Str := ["pot", "places", "rows", "weights", "guesses", "place", "table", "standings", "chances", "shares", "functions", "errors", "at", "chance", "function", "row", "to", "worth"]
theorem sc__law_right : FnScope N__law_right ["pot"] (defScope st__law_right) := ⟨rfl, rfl, rfl, by decide +kernel, rfl, by decide +kernel, by decide +kernel⟩
abbrev st_law : Stmt := top 80
abbrev N_law : List Str := ["script"]
theorem sc_law : FnScope N_law ["script"] (defScope st_law) := ⟨rfl, rfl, rfl, by decide +kernel, rfl, by decide +kernel, by decide +kernel⟩
end Gw
set_option maxHeartbeats 0
namespace Gw
open PySem PySem.Spec PyProof.Rows L2 He
def d_is_integer : DefD := ⟨("is_integer", none), "is_integer", "is_integer", defArgs st_is_integer, defBody st_is_integer, defScope st_is_integer, [], []⟩
def d_divisor_of : DefD := ⟨("divisor_of", none), "divisor_of", "divisor_of", defArgs st_divisor_of, defBody st_divisor_of, defScope st_divisor_of, [], []⟩
def d_told_pair : DefD := ⟨("told_pair", none), "told_pair", "told_pair", defArgs st_told_pair, defBody st_told_pair, defScope st_told_pair, [], []⟩
def d_is_number : DefD := ⟨("is_number", none), "is_number", "is_number", defArgs st_is_number, defBody st_is_number, defScope st_is_number, [], []⟩
def d_ratio_of : DefD := ⟨("ratio_of", none), "ratio_of", "ratio_of", defArgs st_ratio_of, defBody st_ratio_of, defScope st_ratio_of, [], []⟩
def d_want_number : DefD := ⟨("want_number", none), "want_number", "want_number", defArgs st_want_number, defBody st_want_number, defScope st_want_number, [], []⟩
def d_is_list : DefD := ⟨("is_list", none), "is_list", "is_list", defArgs st_is_list, defBody st_is_list, defScope st_is_list, [], []⟩
def d_total_of : DefD := ⟨("total_of", none), "total_of", "total_of", defArgs st_total_of, defBody st_total_of, defScope st_total_of, [], []⟩
def d_wholes : DefD := ⟨("wholes", none), "wholes", "wholes", defArgs st_wholes, defBody st_wholes, defScope st_wholes, [], []⟩
def d_ints_of : DefD := ⟨("ints_of", none), "ints_of", "ints_of", defArgs st_ints_of, defBody st_ints_of, defScope st_ints_of, [], []⟩
def d_bare_row : DefD := ⟨("bare_row", none), "bare_row", "bare_row", defArgs st_bare_row, defBody st_bare_row, defScope st_bare_row, [], []⟩
def d_cleared : DefD := ⟨("cleared", none), "cleared", "cleared", defArgs st_cleared, defBody st_cleared, defScope st_cleared, [], []⟩
def d_first_at : DefD := ⟨("first_at", none), "first_at", "first_at", defArgs st_first_at, defBody st_first_at, defScope st_first_at, [], []⟩
def d_headed_row : DefD := ⟨("headed_row", none), "headed_row", "headed_row", defArgs st_headed_row, defBody st_headed_row, defScope st_headed_row, [], []⟩
def d_head_of : DefD := ⟨("head_of", none), "head_of", "head_of", defArgs st_head_of, defBody st_head_of, defScope st_head_of, [], []⟩
def d_told_rows : DefD := ⟨("told_rows", none), "told_rows", "told_rows", defArgs st_told_rows, defBody st_told_rows, defScope st_told_rows, [], []⟩
def d_int_steps : DefD := ⟨("int_steps", none), "int_steps", "int_steps", defArgs st_int_steps, defBody st_int_steps, defScope st_int_steps, [], []⟩
def d_steps_of : DefD := ⟨("steps_of", none), "steps_of", "steps_of", defArgs st_steps_of, defBody st_steps_of, defScope st_steps_of, [], []⟩
def d_are_numbers : DefD := ⟨("are_numbers", none), "are_numbers", "are_numbers", defArgs st_are_numbers, defBody st_are_numbers, defScope st_are_numbers, [], []⟩
def d_is_table_of : DefD := ⟨("is_table_of", none), "is_table_of", "is_table_of", defArgs st_is_table_of, defBody st_is_table_of, defScope st_is_table_of, [], []⟩
def d_told_table : DefD := ⟨("told_table", none), "told_table", "told_table", defArgs st_told_table, defBody st_told_table, defScope st_told_table, [], []⟩
def d_are_chances : DefD := ⟨("are_chances", none), "are_chances", "are_chances", defArgs st_are_chances, defBody st_are_chances, defScope st_are_chances, [], []⟩
def d_want_proposal : DefD := ⟨("want_proposal", none), "want_proposal", "want_proposal", defArgs st_want_proposal, defBody st_want_proposal, defScope st_want_proposal, [], []⟩
def d_want_weights : DefD := ⟨("want_weights", none), "want_weights", "want_weights", defArgs st_want_weights, defBody st_want_weights, defScope st_want_weights, [], []⟩
def d_is_part : DefD := ⟨("is_part", none), "is_part", "is_part", defArgs st_is_part, defBody st_is_part, defScope st_is_part, [], []⟩
def d_guess_in : DefD := ⟨("guess_in", none), "guess_in", "guess_in", defArgs st_guess_in, defBody st_guess_in, defScope st_guess_in, [], []⟩
def d_want_guesses : DefD := ⟨("want_guesses", none), "want_guesses", "want_guesses", defArgs st_want_guesses, defBody st_want_guesses, defScope st_want_guesses, [], []⟩
def d_standings_of : DefD := ⟨("standings_of", none), "standings_of", "standings_of", defArgs st_standings_of, defBody st_standings_of, defScope st_standings_of, [], []⟩
def d_want_at_most : DefD := ⟨("want_at_most", none), "want_at_most", "want_at_most", defArgs st_want_at_most, defBody st_want_at_most, defScope st_want_at_most, [], []⟩
def d_flow_between : DefD := ⟨("flow_between", none), "flow_between", "flow_between", defArgs st_flow_between, defBody st_flow_between, defScope st_flow_between, [], []⟩
def d_flows_of_standings : DefD := ⟨("flows_of_standings", none), "flows_of_standings", "flows_of_standings", defArgs st_flows_of_standings, defBody st_flows_of_standings, defScope st_flows_of_standings, [], []⟩
def d_is_joined : DefD := ⟨("is_joined", none), "is_joined", "is_joined", defArgs st_is_joined, defBody st_is_joined, defScope st_is_joined, [], []⟩
def d_worths_ahead : DefD := ⟨("worths_ahead", none), "worths_ahead", "worths_ahead", defArgs st_worths_ahead, defBody st_worths_ahead, defScope st_worths_ahead, [], []⟩
def d_table_of_standings : DefD := ⟨("table_of_standings", none), "table_of_standings", "table_of_standings", defArgs st_table_of_standings, defBody st_table_of_standings, defScope st_table_of_standings, [], []⟩
def d_guessed_table : DefD := ⟨("guessed_table", none), "guessed_table", "guessed_table", defArgs st_guessed_table, defBody st_guessed_table, defScope st_guessed_table, [], []⟩
def d__law_draw : DefD := ⟨("_law_draw", none), "_law_draw", "_law_draw", defArgs st__law_draw, defBody st__law_draw, defScope st__law_draw, [], []⟩
def d__law_pot : DefD := ⟨("_law_pot", none), "_law_pot", "_law_pot", defArgs st__law_pot, defBody st__law_pot, defScope st__law_pot, [], []⟩
def d__law_pick : DefD := ⟨("_law_pick", none), "_law_pick", "_law_pick", defArgs st__law_pick, defBody st__law_pick, defScope st__law_pick, [], []⟩
def d__law_weights : DefD := ⟨("_law_weights", none), "_law_weights", "_law_weights", defArgs st__law_weights, defBody st__law_weights, defScope st__law_weights, [], []⟩
def d__law_proposal : DefD := ⟨("_law_proposal", none), "_law_proposal", "_law_proposal", defArgs st__law_proposal, defBody st__law_proposal, defScope st__law_proposal, [], []⟩
def d__law_two : DefD := ⟨("_law_two", none), "_law_two", "_law_two", defArgs st__law_two, defBody st__law_two, defScope st__law_two, [], []⟩
def d__law_handed : DefD := ⟨("_law_handed", none), "_law_handed", "_law_handed", defArgs st__law_handed, defBody st__law_handed, defScope st__law_handed, [], []⟩
def d__law_is_joined : DefD := ⟨("_law_is_joined", none), "_law_is_joined", "_law_is_joined", defArgs st__law_is_joined, defBody st__law_is_joined, defScope st__law_is_joined, [], []⟩
def d__law_three : DefD := ⟨("_law_three", none), "_law_three", "_law_three", defArgs st__law_three, defBody st__law_three, defScope st__law_three, [], []⟩
def d__law_standings : DefD := ⟨("_law_standings", none), "_law_standings", "_law_standings", defArgs st__law_standings, defBody st__law_standings, defScope st__law_standings, [], []⟩
def d__law_goes : DefD := ⟨("_law_goes", none), "_law_goes", "_law_goes", defArgs st__law_goes, defBody st__law_goes, defScope st__law_goes, [], []⟩
def d__law_chances : DefD := ⟨("_law_chances", none), "_law_chances", "_law_chances", defArgs st__law_chances, defBody st__law_chances, defScope st__law_chances, [], []⟩
def d__law_shares : DefD := ⟨("_law_shares", none), "_law_shares", "_law_shares", defArgs st__law_shares, defBody st__law_shares, defScope st__law_shares, [], []⟩
def d__law_solved : DefD := ⟨("_law_solved", none), "_law_solved", "_law_solved", defArgs st__law_solved, defBody st__law_solved, defScope st__law_solved, [], []⟩
def d__law_errors : DefD := ⟨("_law_errors", none), "_law_errors", "_law_errors", defArgs st__law_errors, defBody st__law_errors, defScope st__law_errors, [], []⟩
def d__law_worth : DefD := ⟨("_law_worth", none), "_law_worth", "_law_worth", defArgs st__law_worth, defBody st__law_worth, defScope st__law_worth, [], []⟩
def d__law_told : DefD := ⟨("_law_told", none), "_law_told", "_law_told", defArgs st__law_told, defBody st__law_told, defScope st__law_told, [], []⟩
def d__law_right : DefD := ⟨("_law_right", none), "_law_right", "_law_right", defArgs st__law_right, defBody st__law_right, defScope st__law_right, [], []⟩
def d_law : DefD := ⟨("law", none), "law", "law", defArgs st_law, defBody st_law, defScope st_law, [], []⟩
def d_R__init__ : DefD := ⟨("Ratio", some "__init__"), "__init__", "Ratio.__init__", defArgs st_R__init__, defBody st_R__init__, defScope st_R__init__, [.int 1], []⟩
def d_R__add__ : DefD := ⟨("Ratio", some "__add__"), "__add__", "Ratio.__add__", defArgs st_R__add__, defBody st_R__add__, defScope st_R__add__, [], []⟩
def d_R__sub__ : DefD := ⟨("Ratio", some "__sub__"), "__sub__", "Ratio.__sub__", defArgs st_R__sub__, defBody st_R__sub__, defScope st_R__sub__, [], []⟩
def d_R__rsub__ : DefD := ⟨("Ratio", some "__rsub__"), "__rsub__", "Ratio.__rsub__", defArgs st_R__rsub__, defBody st_R__rsub__, defScope st_R__rsub__, [], []⟩
def d_R__mul__ : DefD := ⟨("Ratio", some "__mul__"), "__mul__", "Ratio.__mul__", defArgs st_R__mul__, defBody st_R__mul__, defScope st_R__mul__, [], []⟩
def d_Rover : DefD := ⟨("Ratio", some "over"), "over", "Ratio.over", defArgs st_Rover, defBody st_Rover, defScope st_Rover, [], []⟩
def d_Ris_below : DefD := ⟨("Ratio", some "is_below"), "is_below", "Ratio.is_below", defArgs st_Ris_below, defBody st_Ris_below, defScope st_Ris_below, [], []⟩
def d_R__eq__ : DefD := ⟨("Ratio", some "__eq__"), "__eq__", "Ratio.__eq__", defArgs st_R__eq__, defBody st_R__eq__, defScope st_R__eq__, [], []⟩
def a_Rsign : DefA := ⟨fun K => recAd K (ma K (cRat K) "sign") "property", "sign", "Ratio.sign", defArgs st_Rsign, defBody st_Rsign, defScope st_Rsign⟩
def a_Rtop : DefA := ⟨fun K => recAd K (ma K (cRat K) "top") "property", "top", "Ratio.top", defArgs st_Rtop, defBody st_Rtop, defScope st_Rtop⟩
def a_Rtotal : DefA := ⟨fun K => recAd K (ma K (cRat K) "total") "classmethod", "total", "Ratio.total", defArgs st_Rtotal, defBody st_Rtotal, defScope st_Rtotal⟩
def hFn0 : List DefD := [d_is_integer, d_divisor_of, d_told_pair, d_is_number, d_ratio_of, d_want_number, d_is_list, d_total_of, d_wholes, d_ints_of, d_bare_row, d_cleared, d_first_at, d_headed_row, d_head_of, d_told_rows, d_int_steps, d_steps_of, d_are_numbers, d_is_table_of]
def hFn1 : List DefD := [d_told_table, d_are_chances, d_want_proposal, d_want_weights, d_is_part, d_guess_in, d_want_guesses, d_standings_of, d_want_at_most, d_flow_between, d_flows_of_standings, d_is_joined, d_worths_ahead, d_table_of_standings, d_guessed_table, d__law_draw, d__law_pot, d__law_pick, d__law_weights, d__law_proposal]
def hFn2 : List DefD := [d__law_two, d__law_handed, d__law_is_joined, d__law_three, d__law_standings, d__law_goes, d__law_chances, d__law_shares, d__law_solved, d__law_errors, d__law_worth, d__law_told, d__law_right, d_law, d_R__init__, d_R__add__, d_R__sub__, d_R__rsub__, d_R__mul__, d_Rover]
def hFn3 : List DefD := [d_Ris_below, d_R__eq__]
def hFn : List DefD := hFn0 ++ hFn1 ++ hFn2 ++ hFn3
def hFa0 : List Fa := [.glo "is_integer", .glo "divisor_of", .glo "told_pair", .glo "is_number", .glo "ratio_of", .glo "want_number", .glo "is_list", .glo "total_of", .glo "wholes", .glo "ints_of", .glo "bare_row", .glo "cleared", .glo "first_at", .glo "headed_row", .glo "head_of", .glo "told_rows", .glo "int_steps", .glo "steps_of", .glo "are_numbers", .glo "is_table_of"]
def hFa1 : List Fa := [.glo "told_table", .glo "are_chances", .glo "want_proposal", .glo "want_weights", .glo "is_part", .glo "guess_in", .glo "want_guesses", .glo "standings_of", .glo "want_at_most", .glo "flow_between", .glo "flows_of_standings", .glo "is_joined", .glo "worths_ahead", .glo "table_of_standings", .glo "guessed_table", .glo "_law_draw", .glo "_law_pot", .glo "_law_pick", .glo "_law_weights", .glo "_law_proposal"]
def hFa2 : List Fa := [.glo "_law_two", .glo "_law_handed", .glo "_law_is_joined", .glo "_law_three", .glo "_law_standings", .glo "_law_goes", .glo "_law_chances", .glo "_law_shares", .glo "_law_solved", .glo "_law_errors", .glo "_law_worth", .glo "_law_told", .glo "_law_right", .glo "law", .free "isinstance", .free "int", .free "bool", .free "list", .free "tuple", .free "len"]
def hFa3 : List Fa := [.free "all", .free "any", .free "sum", .free "zip", .free "enumerate", .free "range", .free "abs", .free "max", .free "divmod", .int "LEAST_PLACES" 2, .int "MOST_PLACES" 6, .int "MOST_PARTS" 4, .int "MOST_STANDINGS" 8, .glo "Ratio", .cls "Ratio", .noat "Ratio" "own_top", .noat "Ratio" "own_bottom", .mkr "Ratio", .meth "Ratio" "over", .meth "Ratio" "is_below"]
def hFa4 : List Fa := [.glo "NotWhole"]
def hFa : List Fa := hFa0 ++ hFa1 ++ hFa2 ++ hFa3 ++ hFa4
def xNw (K : PySem.W.Frag) : Bool := PySem.W.excIn K (ga K "NotWhole") [.type "RuntimeError", .type "Exception", .type "BaseException", .type "object"] "RuntimeError.__new__" && (PySem.W.keepIn K (.ref (ga K "NotWhole")) && (decide (PySem.W.subIn K (.ref (ga K "NotWhole")) (.type "BaseException") = some true) && ((match PySem.W.typeIn K (.ref (ga K "NotWhole")) with
  | some (.type t) => t == "type"
  | _ => false) && decide (PySem.W.exmOne K (.ref (ga K "NotWhole")) (.ref (ga K "NotWhole")) = some true))))
def hDa : List DefA := [a_Rsign, a_Rtop, a_Rtotal]
def hEx (K : PySem.W.Frag) : Bool := xNw K && (xGlo K && (xRat K && (xOp K .Add "__add__" "__radd__" && (xOp K .Sub "__sub__" "__rsub__" && (xOp K .Mult "__mul__" "__rmul__" && (xEq K && (xProp K "sign" && (xProp K "top" && xCm K "total"))))))))
def hLoose0 : List Str := ["_wall", "__name__", "WalkError", "ValueError", "StateError", "RuntimeError", "LimitError", "ArithmeticError", "InvalidNumber", "DividedByZero", "InvalidGuesses", "InvalidProposal", "InvalidWeights", "NotWhole", "TooMany", "is_integer", "is_list", "want_at_most", "PART", "digits_of"]
def hLoose1 : List Str := ["divisor_of", "Ratio", "told_pair", "is_number", "ratio_of", "want_number", "wholes", "total_of", "ints_of", "bare_row", "cleared", "first_at", "headed_row", "int_steps", "head_of", "told_rows", "steps_of", "LEAST_PLACES", "MOST_PLACES", "are_numbers"]
def hLoose2 : List Str := ["is_table_of", "told_table", "are_chances", "want_proposal", "want_weights", "MOST_PARTS", "is_part", "guess_in", "MOST_STANDINGS", "want_guesses", "standings_of", "flow_between", "flows_of_standings", "is_joined", "worths_ahead", "table_of_standings", "guessed_table", "_law_pot", "_law_draw", "_law_pick"]
def hLoose3 : List Str := ["_law_proposal", "_law_weights", "_law_two", "_law_is_joined", "_law_standings", "_law_goes", "_law_chances", "_law_shares", "_law_solved", "_law_three", "_law_errors", "_law_worth", "_law_handed", "_law_told", "_law_right"]
def hLoose : List Str := hLoose0 ++ hLoose1 ++ hLoose2 ++ hLoose3
abbrev hR : PySem.W.OpenRow := PySem.W.OpenLaw.row PySem.Challenge.rw_walkworths_k83_whole_tables_of_guessed_w
abbrev hk : PySem.W.Hook := hookA 1000 hFa hFn hDa hEx
def hOb (s : PySem.W.SharedT) : AlG := obsAG 1000 hFa hFn hDa hEx (HandSHeadRun.getT s)
theorem hOb_eq (s : PySem.W.SharedT) : hOb s = hk.obs s.abs := obsAG_eq (HandSHeadRun.getT_eq s)
theorem hRun (w : World) : HandSHeadRun.RunEqI hR (PySem.W.view hR.prog [0, 80]) hk hOb 20000 hLoose w := by
  unfold HandSHeadRun.RunEqI
  kernel_rfl
end Gw
set_option maxHeartbeats 4000000
namespace Gw
open PySem PySem.Spec PyProof.Rows L2
section
variable {X : Cx} {E : En} {G : List Sl} {e : Expr} {st : Stmt} {Ra Rb : V → Hp → Prop} {Rm Rl : List V → Hp → Prop} {Rt : V → Hp → Hp → Prop} {K : PySem.W.Frag}
/-- a, xs = value, new list: through the pair, as cells are stored -/
theorem js_asgFM {i j : Nat} (hij : i ≠ j) (p : PS X st (tAsg (tTup (tCons (tE E G Ra) (tCons (tM E G Rm) tNil))) (gTup K 2 (gCons (gName i) (gCons (gName j) gNil))))) : PS X st (tS E G Rt (· = (G.set i (.fz Ra)).set j (.mt Rm))) := PS_imp p fun D σ H ⟨F, S, kn, kr⟩ =>
  ⟨F, S, fun v F1 H1 g1 u1 => ⟨F1, S.gr g1, fun q ws F2 H2 g2 n1 n2 n3 u2 => ⟨by show 2 ≤ sizeLine; decide, fun t ht => by
    have g3 := Gr.raw (o := HO.tup [v, .ref q]) g2.ok ht
    have qt : q ≠ t := ne_of_none n3 ht
    refine ⟨t, [v, .ref q], rfl, .inl (.inl upd_same), rfl, _, _, rfl, _, _, rfl, rfl, ?_⟩
    refine kn _ _ F2 _ rfl (((S.gr ((g1.trans g2).trans g3)).set_fz (u1.mono g2.f)).set_mt n2 ((S.gr g1).bs.back n1) (by rw [upd_ne qt]; exact n3) u2 fun k Rk hk hG hs => ?_) (g1.trans g2).f
    by_cases z : k = i
    · subst z
      have hl : k < G.length := by
        have := (List.getElem?_eq_some_iff.mp hG).1
        simpa using this
      rw [List.getElem?_set_self hl] at hG
      cases hG
    · rw [List.getElem?_set_ne (Ne.symm z)] at hG hs
      exact fresh_mt (S.gr g1) n1 hG hs⟩⟩⟩
theorem js_asgMM {i j : Nat} (hij : i ≠ j) (p : PS X st (tAsg (tTup (tCons (tM E G Rm) (tCons (tM E G Rl) tNil))) (gTup K 2 (gCons (gName i) (gCons (gName j) gNil))))) : PS X st (tS E G Rt (· = (G.set i (.mt Rm)).set j (.mt Rl))) := PS_imp p fun D σ H ⟨F, S, kn, kr⟩ =>
  ⟨F, S, fun q ws F1 H1 g1 n1 n2 n3 u1 => ⟨F1, S.gr g1, fun q' ws' F2 H2 g2 m1 m2 m3 u2 => ⟨by show 2 ≤ sizeLine; decide, fun t ht => by
    have g3 := Gr.raw (o := HO.tup [.ref q, .ref q']) g2.ok ht
    have nq : q ≠ q' := ne_of_none n3 m1
    have np : E.pp ≠ some q := fun z => by
      obtain ⟨_, x, y, h2, _⟩ := S.ok.p q z
      rw [n1] at h2
      cases h2
    have f2 : F2 q = none := by
      cases z : F2 q with
      | none => rfl
      | some o =>
        rcases g2.n q o z with w | w
        · rw [n2] at w; cases w
        · rw [n3] at w; cases w
    have h2q := g2.k q _ n3 np
    have qt : q ≠ t := ne_of_none h2q ht
    have qt' : q' ≠ t := ne_of_none m3 ht
    refine ⟨t, [.ref q, .ref q'], rfl, .inl (.inl upd_same), rfl, _, _, rfl, _, _, rfl, rfl, ?_⟩
    have S1 := (S.gr ((g1.trans g2).trans g3)).set_mt (i := i) f2 (S.bs.back n1) (by rw [upd_ne qt]; exact h2q) (u1.mono g2.f) fun k Rk hk hG hs => fresh_mt S n1 hG hs
    refine kn _ _ F2 _ rfl (S1.set_mt m2 ((S.gr g1).bs.back m1) (by rw [upd_ne qt']; exact m3) u2 fun k Rk hk hG hs => ?_) (g1.trans g2).f
    by_cases z : k = i
    · subst z
      have hl : k < σ.length := by
        have := (List.getElem?_eq_some_iff.mp hs).1
        simpa using this
      rw [List.getElem?_set_self hl] at hs
      cases hs
      exact nq rfl
    · rw [List.getElem?_set_ne (Ne.symm z)] at hG hs
      exact fresh_mt (S.gr g1) m1 hG hs⟩⟩⟩
/-- a test that reads a list that may still turn -/
theorem jt_view {i : Nat} {b : Bool} (hG : G[i]? = some (.mt Rm)) (p : PT X e (tT E (G.set i (.fz (LstOf Rm))) b)) : PT X e (tT E G b) := PT_imp p fun σ H Q ⟨F, S, k⟩ => by
  obtain ⟨p, vs, e, h1, h2, h3, h4, S'⟩ := S.freeze hG
  exact ⟨_, S', fun F2 H2 g => k _ H2 (hide_gr S.ok h1 h3 g)⟩
/-- another object of this def's own turns -/
theorem Sat.poke {σ : L2.St} {F H : Hp} (S : Sat E G σ F H) {q : Addr} {o : HO} (hF : F q = none) (hE : E.H q = none) (hm : ∀ (i : Nat) (R : List V → Hp → Prop), G[i]? = some (.mt R) → σ[i]? ≠ some (some (.ref q))) : Sat E G σ F (upd H q o) where
  len := S.len
  bs := {
    f := S.bs.f
    s := fun a o q' => by
      have ne : a ≠ q := fun z => by rw [z, hF] at q'; cases q'
      rw [upd_ne ne]
      exact S.bs.s a o q'
    k := fun a o q' hp => by
      have ne : a ≠ q := fun z => by rw [z, hE] at q'; cases q'
      rw [upd_ne ne]
      exact S.bs.k a o q' hp
    n := S.bs.n
    p := fun a ha => by
      obtain ⟨q1, x, y, q2, q3⟩ := S.bs.p a ha
      have ne : a ≠ q := fun z => S.npot hE (by rw [← z]; exact ha)
      exact ⟨q1, x, y, by rw [upd_ne ne]; exact q2, q3⟩ }
  p0 := S.p0
  fz := S.fz
  mt := fun i R h => by
    obtain ⟨p, vs, e, h1, h2, h3, h4⟩ := S.mt i R h
    have ne : p ≠ q := fun z => hm i R h (by rw [← z]; exact e)
    exact ⟨p, vs, e, h1, h2, by rw [upd_ne ne]; exact h3, h4⟩
  ap := S.ap
  pt := S.pt
end
theorem isU_ints {ms : List Nat} {vs : List V} {F : Hp} (h : LsOf IsU ms vs F) : LsOf IsI (ms.map fun (n : Nat) => (n : Int)) vs F := by
  unfold LsOf at h ⊢
  induction h with
  | nil => exact .nil
  | cons r t ih => exact .cons r ih
theorem isU_lst {ms : List Nat} : ∀ v F, IsL IsU ms v F → IsL IsI (ms.map fun (n : Nat) => (n : Int)) v F := fun v F ⟨a, vs, e, h, u⟩ => ⟨a, vs, e, h, u.imp fun F q => isU_ints q⟩
end Gw
/-! Plain facts of rational numbers, as the text computes them. -/
namespace Gw
theorem q_den0 (q : Rat) : (q.den : Int) ≠ 0 := by
  have := q.den_nz
  omega
theorem q_self (q : Rat) : Rat.divInt q.num (q.den : Int) = q := Rat.num_divInt_den q
theorem q_add (q r : Rat) : Rat.divInt (q.num * r.den + r.num * q.den) (q.den * r.den) = q + r := by
  rw [← Rat.divInt_add_divInt _ _ (q_den0 q) (q_den0 r), q_self, q_self]
theorem q_sub (q r : Rat) : Rat.divInt (q.num * r.den - r.num * q.den) (q.den * r.den) = q - r := by
  rw [← Rat.divInt_sub_divInt _ _ (q_den0 q) (q_den0 r), q_self, q_self]
theorem q_rsub (q r : Rat) : Rat.divInt (r.num * q.den - q.num * r.den) (q.den * r.den) = r - q := by
  rw [← q_sub r q, Int.mul_comm (q.den : Int)]
theorem q_mul (q r : Rat) : Rat.divInt (q.num * r.num) (q.den * r.den) = q * r := by
  rw [← Rat.divInt_mul_divInt, q_self, q_self]
theorem q_over (q r : Rat) : Rat.divInt (q.num * r.den) (q.den * r.num) = q / r := by
  rw [← Rat.divInt_mul_divInt, q_self, Rat.div_def]
  congr 1
  rw [← Rat.inv_divInt, q_self]
theorem q_lt (q r : Rat) : decide (q.num * r.den < r.num * q.den) = decide (q < r) := by
  rw [decide_eq_decide]
  exact (Rat.lt_iff q r).symm
theorem q_eq (q r : Rat) : (decide (q.num = r.num) && decide ((q.den : Int) = r.den)) = decide (q = r) := by
  rw [← Bool.decide_and, decide_eq_decide]
  constructor
  · rintro ⟨h1, h2⟩
    exact Rat.ext h1 (by omega)
  · rintro rfl
    exact ⟨rfl, rfl⟩
theorem q_sgn (q : Rat) : ((if decide ((0 : Int) < q.num) = true then (1 : Int) else 0) - (if decide (q.num < 0) = true then (1 : Int) else 0)) = q.num.sign := by
  rcases Int.lt_trichotomy q.num 0 with h | h | h
  · rw [Int.sign_eq_neg_one_of_neg h]
    simp [h, Int.lt_asymm h]
  · rw [h]; rfl
  · rw [Int.sign_eq_one_of_pos h]
    simp [h, Int.lt_asymm h]
theorem q_sgn_pos (q : Rat) : decide ((0 : Int) < q.num.sign) = decide (0 < q) := by
  rw [decide_eq_decide, Int.sign_pos_iff]
  rw [Rat.lt_iff]
  simp
theorem q_sgn_nn (q : Rat) : decide ((0 : Int) ≤ q.num.sign) = decide (0 ≤ q) := by
  rw [decide_eq_decide]
  rw [← Rat.num_nonneg]
  constructor
  · intro h
    rcases Int.lt_trichotomy q.num 0 with h2 | h2 | h2
    · rw [Int.sign_eq_neg_one_of_neg h2] at h; omega
    · omega
    · omega
  · intro h
    rcases Int.lt_trichotomy q.num 0 with h2 | h2 | h2
    · omega
    · rw [h2]; decide
    · rw [Int.sign_eq_one_of_pos h2]; decide
/-- the divisor of __init__ -/
def iniC (t b : Int) : Int := if b < 0 then 0 - ((Nat.gcd t.natAbs b.natAbs : Nat) : Int) else ((Nat.gcd t.natAbs b.natAbs : Nat) : Int)
theorem gcd_pos' (t b : Int) (hb : b ≠ 0) : 0 < ((Nat.gcd t.natAbs b.natAbs : Nat) : Int) := by
  have : 0 < Nat.gcd t.natAbs b.natAbs := Nat.gcd_pos_of_pos_right _ (by omega)
  omega
theorem iniC_ne (t b : Int) (hb : b ≠ 0) : iniC t b ≠ 0 := by
  have := gcd_pos' t b hb
  unfold iniC
  split <;> omega
theorem ini_top (t b : Int) (hb : b ≠ 0) : t.fdiv (iniC t b) = (Rat.divInt t b).num := by
  have hg := gcd_pos' t b hb
  have h1 : ((b.gcd t : Nat) : Int) = ((Nat.gcd t.natAbs b.natAbs : Nat) : Int) := by
    unfold Int.gcd
    rw [Nat.gcd_comm]
  have hd : ((Nat.gcd t.natAbs b.natAbs : Nat) : Int) ∣ t := by
    rw [← Int.dvd_natAbs]
    exact Int.natCast_dvd_natCast.mpr (Nat.gcd_dvd_left _ _)
  rw [Rat.num_divInt, h1]
  obtain ⟨c, hc⟩ := hd
  generalize hG : ((Nat.gcd t.natAbs b.natAbs : Nat) : Int) = g at *
  unfold iniC
  rw [hG]
  rcases Int.lt_trichotomy b 0 with h | h | h
  · rw [if_pos h, Int.sign_eq_neg_one_of_neg h, hc]
    have e1 : (g * c).fdiv (0 - g) = -c := by
      rw [show g * c = (0 - g) * (-c) by grind]
      exact Int.mul_fdiv_cancel_left _ (by omega)
    have e2 : -1 * (g * c) / g = -c := by
      rw [show -1 * (g * c) = g * (-c) by grind]
      exact Int.mul_ediv_cancel_left _ (by omega)
    rw [e1, e2]
  · exact absurd h hb
  · rw [if_neg (by omega), Int.sign_eq_one_of_pos h, hc]
    rw [Int.mul_fdiv_cancel_left _ (by omega), Int.one_mul, Int.mul_ediv_cancel_left _ (by omega)]
theorem ini_bot (t b : Int) (hb : b ≠ 0) : b.fdiv (iniC t b) = ((Rat.divInt t b).den : Int) := by
  have hg := gcd_pos' t b hb
  have h1 : b.gcd t = Nat.gcd t.natAbs b.natAbs := by
    unfold Int.gcd
    rw [Nat.gcd_comm]
  have hd : Nat.gcd t.natAbs b.natAbs ∣ b.natAbs := Nat.gcd_dvd_right _ _
  rw [Rat.den_divInt, h1, if_neg hb]
  obtain ⟨c, hc⟩ := hd
  generalize hG : Nat.gcd t.natAbs b.natAbs = g at *
  rw [hc, Nat.mul_div_cancel_left _ (by omega)]
  unfold iniC
  rw [hG]
  rcases Int.lt_trichotomy b 0 with h | h | h
  · rw [if_pos h]
    have e : b = (0 - (g : Int)) * (c : Int) := by
      have : ((b.natAbs : Nat) : Int) = (g : Int) * (c : Int) := by rw [hc]; exact Int.natCast_mul _ _
      have h2 : ((b.natAbs : Nat) : Int) = -b := by omega
      rw [h2] at this
      grind
    rw [e]
    exact Int.mul_fdiv_cancel_left _ (by omega)
  · exact absurd h hb
  · rw [if_neg (by omega)]
    have e : b = (g : Int) * (c : Int) := by
      have : ((b.natAbs : Nat) : Int) = (g : Int) * (c : Int) := by rw [hc]; exact Int.natCast_mul _ _
      have h2 : ((b.natAbs : Nat) : Int) = b := by omega
      rw [h2] at this
      exact this
    rw [e]
    exact Int.mul_fdiv_cancel_left _ (by omega)
theorem iniC_le (t b : Int) (hb : b ≠ 0) : (iniC t b).natAbs ≤ b.natAbs := by
  have h1 : Nat.gcd t.natAbs b.natAbs ≤ b.natAbs := Nat.le_of_dvd (by omega) (Nat.gcd_dvd_right _ _)
  unfold iniC
  split <;> omega
theorem log2_mono {a b : Nat} (h : a ≤ b) : a.log2 ≤ b.log2 := by
  by_cases ha : a = 0
  · rw [ha]; simp
  · rw [Nat.le_log2 (by omega)]
    exact Nat.le_trans (Nat.log2_self_le ha) h
theorem log2_lt {a n : Nat} (hn : 0 < n) (h : a < 2 ^ n) : a.log2 < n := by
  by_cases ha : a = 0
  · rw [ha]; simpa using hn
  · exact (Nat.log2_lt ha).mpr h
/-! ### sizes -/
/-- a sum, difference, product of the two is within what the text's ints bear -/
def Fits (q r : Rat) : Prop := q.den * r.den < 2 ^ 9000 ∧ q.num.natAbs < 2 ^ 20000 ∧ r.num.natAbs < 2 ^ 20000
def FitsO (q r : Rat) : Prop := r ≠ 0 ∧ q.den * r.num.natAbs < 2 ^ 9000 ∧ q.num.natAbs < 2 ^ 20000 ∧ r.den < 2 ^ 20000
theorem Fits.d1 {q r : Rat} (h : Fits q r) : q.den < 2 ^ 9000 := Nat.lt_of_le_of_lt (Nat.le_mul_of_pos_right _ r.den_pos) h.1
theorem Fits.d2 {q r : Rat} (h : Fits q r) : r.den < 2 ^ 9000 := Nat.lt_of_le_of_lt (Nat.le_mul_of_pos_left _ q.den_pos) h.1
/-- n bits at most, above and below -/
def Sz (n : Nat) (q : Rat) : Prop := q.num.natAbs < 2 ^ n ∧ q.den < 2 ^ n
theorem Sz.mono {n m : Nat} {q : Rat} (h : Sz n q) (hm : n ≤ m) : Sz m q := ⟨Nat.lt_of_lt_of_le h.1 (Nat.pow_le_pow_right (by omega) hm), Nat.lt_of_lt_of_le h.2 (Nat.pow_le_pow_right (by omega) hm)⟩
theorem Sz.fits {n m : Nat} {q r : Rat} (h : Sz n q) (k : Sz m r) (hn : n + m ≤ 9000) : Fits q r := by
  refine ⟨?_, Nat.lt_of_lt_of_le h.1 (Nat.pow_le_pow_right (by omega) (by omega)), Nat.lt_of_lt_of_le k.1 (Nat.pow_le_pow_right (by omega) (by omega))⟩
  calc q.den * r.den < 2 ^ n * 2 ^ m := Nat.mul_lt_mul'' h.2 k.2
    _ = 2 ^ (n + m) := (Nat.pow_add 2 n m).symm
    _ ≤ 2 ^ 9000 := Nat.pow_le_pow_right (by omega) hn
theorem Sz.fitsO {n m : Nat} {q r : Rat} (h : Sz n q) (k : Sz m r) (hr : r ≠ 0) (hn : n + m ≤ 9000) : FitsO q r := by
  refine ⟨hr, ?_, Nat.lt_of_lt_of_le h.1 (Nat.pow_le_pow_right (by omega) (by omega)), Nat.lt_of_lt_of_le k.2 (Nat.pow_le_pow_right (by omega) (by omega))⟩
  calc q.den * r.num.natAbs < 2 ^ n * 2 ^ m := Nat.mul_lt_mul'' h.2 k.1
    _ = 2 ^ (n + m) := (Nat.pow_add 2 n m).symm
    _ ≤ 2 ^ 9000 := Nat.pow_le_pow_right (by omega) hn
theorem num_le (t b : Int) (hb : b ≠ 0) : (Rat.divInt t b).num.natAbs ≤ t.natAbs := by
  rw [← ini_top t b hb]
  have h := iniC_ne t b hb
  have hd : iniC t b ∣ t := by
    have hd : ((Nat.gcd t.natAbs b.natAbs : Nat) : Int) ∣ t := by
      rw [← Int.dvd_natAbs]
      exact Int.natCast_dvd_natCast.mpr (Nat.gcd_dvd_left _ _)
    unfold iniC
    split
    · obtain ⟨c, hc⟩ := hd
      exact ⟨-c, by grind⟩
    · exact hd
  generalize iniC t b = z at *
  obtain ⟨c, hc⟩ := hd
  rw [hc, Int.mul_fdiv_cancel_left _ h, Int.natAbs_mul]
  exact Nat.le_mul_of_pos_left _ (by omega)
theorem den_le (t b : Int) (hb : b ≠ 0) : (Rat.divInt t b).den ≤ b.natAbs := by
  rw [Rat.den_divInt, if_neg hb]
  exact Nat.div_le_self _ _
theorem Sz.add {n m : Nat} {q r : Rat} (h : Sz n q) (k : Sz m r) : Sz (n + m + 1) (q + r) := by
  have hp : (2 : Nat) ^ (n + m + 1) = 2 * (2 ^ n * 2 ^ m) := by rw [Nat.pow_succ, Nat.pow_add]; omega
  have hb : (q.den : Int) * r.den ≠ 0 := Int.mul_ne_zero (q_den0 q) (q_den0 r)
  have a1 : q.num.natAbs * r.den < 2 ^ n * 2 ^ m := Nat.mul_lt_mul'' h.1 k.2
  have a2 : r.num.natAbs * q.den < 2 ^ n * 2 ^ m := by rw [Nat.mul_comm]; exact Nat.mul_lt_mul'' h.2 k.1
  have a3 : q.den * r.den < 2 ^ n * 2 ^ m := Nat.mul_lt_mul'' h.2 k.2
  rw [← q_add]
  constructor
  · refine Nat.lt_of_le_of_lt (num_le _ _ hb) ?_
    have := Int.natAbs_add_le (q.num * r.den) (r.num * q.den)
    rw [Int.natAbs_mul, Int.natAbs_mul] at this
    simp only [Int.natAbs_natCast] at this
    omega
  · refine Nat.lt_of_le_of_lt (den_le _ _ hb) ?_
    rw [Int.natAbs_mul]
    simp only [Int.natAbs_natCast]
    omega
theorem Sz.mul {n m : Nat} {q r : Rat} (h : Sz n q) (k : Sz m r) : Sz (n + m) (q * r) := by
  have hb : (q.den : Int) * r.den ≠ 0 := Int.mul_ne_zero (q_den0 q) (q_den0 r)
  have a1 : q.num.natAbs * r.num.natAbs < 2 ^ n * 2 ^ m := Nat.mul_lt_mul'' h.1 k.1
  have a3 : q.den * r.den < 2 ^ n * 2 ^ m := Nat.mul_lt_mul'' h.2 k.2
  rw [← q_mul]
  constructor
  · refine Nat.lt_of_le_of_lt (num_le _ _ hb) ?_
    rw [Int.natAbs_mul, Nat.pow_add]
    exact a1
  · refine Nat.lt_of_le_of_lt (den_le _ _ hb) ?_
    rw [Int.natAbs_mul, Nat.pow_add]
    simp only [Int.natAbs_natCast]
    exact a3
theorem Sz.neg {n : Nat} {q : Rat} (h : Sz n q) : Sz n (-q) := ⟨by rw [Rat.neg_num, Int.natAbs_neg]; exact h.1, by rw [Rat.neg_den]; exact h.2⟩
theorem Sz.sub {n m : Nat} {q r : Rat} (h : Sz n q) (k : Sz m r) : Sz (n + m + 1) (q - r) := by
  rw [Rat.sub_eq_add_neg]
  exact h.add k.neg
theorem Sz.int {n : Nat} (hn : 0 < n) {i : Int} (h : i.natAbs < 2 ^ n) : Sz n (i : Rat) := ⟨by rw [Rat.num_intCast]; exact h, by rw [Rat.den_intCast]; exact Nat.one_lt_two_pow (by omega)⟩
end Gw
set_option maxHeartbeats 4000000
namespace Gw
open PySem PySem.Spec PyProof.Rows L2

/-- the names of the text that are no defs -/
structure Glo (K : PySem.W.Frag) (mg : Str → Option Value) (C : Addr) : Prop where
  isi : mg "isinstance" = none
  int : mg "int" = none
  bool : mg "bool" = none
  list : mg "list" = none
  tuple : mg "tuple" = none
  len : mg "len" = none
  all : mg "all" = none
  any : mg "any" = none
  sum : mg "sum" = none
  zip : mg "zip" = none
  enum : mg "enumerate" = none
  range : mg "range" = none
  abs : mg "abs" = none
  max : mg "max" = none
  divmod : mg "divmod" = none
  gcd : mg "gcd" = some (.builtin "math.gcd")
  lcm : mg "lcm" = some (.builtin "math.lcm")
  rat : mg "Ratio" = some (.ref C)
  least : ∃ t, mg "LEAST_PLACES" = some (.int 2 t)
  most : ∃ t, mg "MOST_PLACES" = some (.int 6 t)
  parts : ∃ t, mg "MOST_PARTS" = some (.int 4 t)
  stand : ∃ t, mg "MOST_STANDINGS" = some (.int 8 t)
  F : RatF K C
theorem isi_int {K : PySem.W.Frag} {pp : Option Addr} {i : Int} {n : String} {b : Bool} (h : kitB "int" n = some b) : RC pp (rIsi K) [IsI i, IsC (.ty n)] (IsB b) := rc_isi (t := .type "int") (.ty n) (kit_ty h) fun v F H e h => by
  rw [show v = V.int i from h]
  exact tyx_int
theorem isi_Q {K : PySem.W.Frag} {pp : Option Addr} {q : Rat} {C : Addr} {u : Value} {c : V} {b : Bool} (F : RatF K C) (hc : ClsV c u) (h : PySem.W.kitOne K (.ref C) u = some b) : RC pp (rIsi K) [IsQ C q, IsC c] (IsB b) := rc_isi (t := .ref C) hc h fun v F' H e h => tyx_Q F h e
theorem isi_IQ {K : PySem.W.Frag} {pp : Option Addr} {i : Int} {C : Addr} (F : RatF K C) : RC pp (rIsi K) [IsI i, IsC (.ref C)] (IsB false) := rc_isi (t := .type "int") (.own C) F.io fun v F' H e h => by
  rw [show v = V.int i from h]
  exact tyx_int
theorem mulW_of {i j : Int} {n m : Nat} (hi : i.natAbs < 2 ^ n) (hj : j.natAbs < 2 ^ m) (hn : 0 < n) (hm : 0 < m) (h : n + m ≤ 1000000) : CMulW i j := wide_mul hi hj hn hm h
theorem fits_m1 {q r : Rat} (h : Fits q r) : CMulW q.num (r.den : Int) := mulW_of (n := 20000) (m := 9000) h.2.1 (by rw [Int.natAbs_natCast]; exact h.d2) (by decide) (by decide) (by decide)
theorem fits_m2 {q r : Rat} (h : Fits q r) : CMulW r.num (q.den : Int) := mulW_of (n := 20000) (m := 9000) h.2.2 (by rw [Int.natAbs_natCast]; exact h.d1) (by decide) (by decide) (by decide)
theorem fits_m3 {q r : Rat} (h : Fits q r) : CMulW (q.den : Int) (r.den : Int) := mulW_of (n := 9000) (m := 9000) (by rw [Int.natAbs_natCast]; exact h.d1) (by rw [Int.natAbs_natCast]; exact h.d2) (by decide) (by decide) (by decide)
theorem fits_m4 {q r : Rat} (h : Fits q r) : CMulW q.num r.num := mulW_of (n := 20000) (m := 20000) h.2.1 h.2.2 (by decide) (by decide) (by decide)
theorem fits_ht {q r : Rat} (h : Fits q r) : Ht ((q.den : Int) * (r.den : Int)) := by
  refine ⟨Int.mul_ne_zero (q_den0 q) (q_den0 r), ?_⟩
  rw [Int.natAbs_mul, Int.natAbs_natCast, Int.natAbs_natCast]
  exact log2_lt (by decide) h.1
theorem fitsO_m1 {q r : Rat} (h : FitsO q r) : CMulW q.num (r.den : Int) := mulW_of (n := 20000) (m := 20000) h.2.2.1 (by rw [Int.natAbs_natCast]; exact h.2.2.2) (by decide) (by decide) (by decide)
theorem fitsO_d {q r : Rat} (h : FitsO q r) : q.den < 2 ^ 9000 ∧ r.num.natAbs < 2 ^ 9000 := by
  have hn : 0 < r.num.natAbs := by
    have : r.num ≠ 0 := fun e => h.1 (Rat.num_eq_zero.mp e)
    omega
  exact ⟨Nat.lt_of_le_of_lt (Nat.le_mul_of_pos_right _ hn) h.2.1, Nat.lt_of_le_of_lt (Nat.le_mul_of_pos_left _ q.den_pos) h.2.1⟩
theorem fitsO_m2 {q r : Rat} (h : FitsO q r) : CMulW (q.den : Int) r.num := mulW_of (n := 9000) (m := 9000) (by rw [Int.natAbs_natCast]; exact (fitsO_d h).1) (fitsO_d h).2 (by decide) (by decide) (by decide)
theorem fitsO_ht {q r : Rat} (h : FitsO q r) : Ht ((q.den : Int) * r.num) := by
  refine ⟨Int.mul_ne_zero (q_den0 q) (fun e => h.1 (Rat.num_eq_zero.mp e)), ?_⟩
  rw [Int.natAbs_mul, Int.natAbs_natCast]
  exact log2_lt (by decide) h.2.1
section
variable {P : Program} {w : World} {K : PySem.W.Frag} {mg : Str → Option Value} {base : Heap} {C : Addr}
/-! ### basics -/
abbrev rs_is_integer (C : Addr) : Int ⊕ Rat → List (V → Hp → Prop) := fun w => match w with
  | .inl i => [IsI i]
  | .inr q => [IsQ C q]
abbrev sp_is_integer (C : Addr) : Sp := Pr (rs_is_integer C) (fun _ => True) (fun w => IsB w.isLeft)
abbrev Kn_is_integer (P : Program) (w : World) (K : PySem.W.Frag) (mg : Str → Option Value) (base : Heap) (C : Addr) : Prop := Kn P w K mg base "is_integer" 1 ["value"] (sp_is_integer C)
theorem ok_is_integer (Z : Glo K mg C)  {f : Addr} {fd : FuncData} (Fd : FnP K "is_integer" st_is_integer f fd) : FnOk P w K mg base CX0 1 f fd ["value"] (sp_is_integer C) := by
  refine fn_pr Fd sc_is_integer (fun u => by first | rfl | (cases u <;> rfl)) (fun _ => False) (fun _ _ h => h.elim) (fun X u E hX hp hE => ?_)
  obtain ⟨cdv, A, outer, s, H, E', rfl, hr⟩ := hX
  refine PSs.nox ?_
  have nd := (sc_is_integer).nd
  replace hr : Room 0 (cxOf CX0 P w K mg base N_is_integer "is_integer" (defScope st_is_integer) f cdv A outer s H E').nox.A := hr
  cases u with
  | inl i =>
    exact js_one (js_ret (je_eq (je_and (b1 := true) (b2 := true) (jbB call_isi Z.isi boot_isinstance (ja_cons (jv 0 (R := IsI i)) (ja_cons (jty Z.int boot_int) ja_nil)) (isi_int (by decide +kernel))) fun _ => pe_one (je_not (b1 := false)
      (jbB call_isi Z.isi boot_isinstance (ja_cons (jv 0 (R := IsI i)) (ja_cons (jty Z.bool boot_bool) ja_nil)) (isi_int (by decide +kernel))))) rfl))
  | inr q =>
    refine js_one (js_ret (je_eq (je_and (b1 := false) (b2 := true) (jbB call_isi Z.isi boot_isinstance (ja_cons (jv 0 (R := IsQ C q)) (ja_cons (jty Z.int boot_int) ja_nil)) (isi_Q Z.F (.ty "int") Z.F.oi)) (fun h => nomatch h)) rfl))
abbrev sp_divisor_of (_ : Addr) : Sp := Pr (ι := Int × Int) (fun w => [IsI w.1, IsI w.2]) (fun _ => True) (fun w => IsI ((Nat.gcd w.1.natAbs w.2.natAbs : Nat) : Int))
abbrev Kn_divisor_of (P : Program) (w : World) (K : PySem.W.Frag) (mg : Str → Option Value) (base : Heap) (C : Addr) : Prop := Kn P w K mg base "divisor_of" 1 ["one", "other"] (sp_divisor_of C)
theorem ok_divisor_of (Z : Glo K mg C)  {f : Addr} {fd : FuncData} (Fd : FnP K "divisor_of" st_divisor_of f fd) : FnOk P w K mg base CX0 1 f fd ["one", "other"] (sp_divisor_of C) := by
  refine fn_pr Fd sc_divisor_of (fun u => by first | rfl | (cases u <;> rfl)) (fun _ => False) (fun _ _ h => h.elim) (fun X u E hX hp hE => ?_)
  obtain ⟨cdv, A, outer, s, H, E', rfl, hr⟩ := hX
  refine PSs.nox ?_
  have nd := (sc_divisor_of).nd
  replace hr : Room 0 (cxOf CX0 P w K mg base N_divisor_of "divisor_of" (defScope st_divisor_of) f cdv A outer s H E').nox.A := hr
  exact js_one (js_ret (jbF cr_gcd Z.gcd (ja_cons (jv 0) (ja_cons (jv 1) ja_nil)) rc_gcd))
/-! ### Ratio -/
abbrev sp_R__init__ (C : Addr) : Sp := InitSp C
theorem ok_R__init__ (Z : Glo K mg C) (k_is_integer : Kn_is_integer P w K mg base C) (k_divisor_of : Kn_divisor_of P w K mg base C) {f : Addr} {fd : FuncData} (Fd : FunD K "__init__" "Ratio.__init__" (defArgs st_R__init__) (defBody st_R__init__) (defScope st_R__init__) [V.int 1] [] f fd) : FnOk P w K mg base CX0 2 f fd ["self", "top", "bottom"] (sp_R__init__ C) := by
  refine fn_init Fd sc_R__init__ rfl (fun X E x dx t b hX hp => ?_)
  obtain ⟨cdv, A, outer, s, H, E', rfl, hr⟩ := hX
  refine PSs.nox ?_
  have nd := (sc_R__init__).nd
  replace hr : Room 1 (cxOf CX0 P w K mg base N_R__init__ "Ratio.__init__" (defScope st_R__init__) f cdv A outer s H E').nox.A := hr
  have hg := log2_mono (iniC_le t b hp.1)
  have e1 : qFs (Rat.divInt t b) = [(kTop, .int (t.fdiv (iniC t b))), (kBot, .int (b.fdiv (iniC t b)))] := by
    rw [ini_top t b hp.1, ini_bot t b hp.1]
    rfl
  rw [e1]
  refine js_initS (js_if (b1 := false) (jt_not (b1 := true) (jt_val (pt_val (jc k_is_integer hr (.inl t) (ja_cons (jv 1) ja_nil) trivial)))) (fun h => nomatch h) (fun _ => js_nil rfl)) ?_
  refine js_initS (js_if (b1 := false) (PW.pt (jw_or (b1 := false) (b2 := false) (jt_not (b1 := true) (jt_val (pt_val (jc k_is_integer hr (.inl b) (ja_cons (jv 2) ja_nil) trivial)))) fun _ => jw_or1 (jt_eq (jt_cmp (pt_cmpR op_eq (jv 2 (R := IsI b)) jI (nomark _)) rop_eqI) (decide_eq_false hp.1)))) (fun h => nomatch h) (fun _ => js_nil rfl)) ?_
  refine js_initS (js_set (R := IsI ((Nat.gcd t.natAbs b.natAbs : Nat) : Int)) (ps_set (i := 3) nd rfl (.inl rfl) (jc k_divisor_of hr (t, b) (ja_cons (jv 1) (ja_cons (jv 2) ja_nil)) trivial))) ?_
  refine js_initS (G1 := G0 [IsC (.ref x), IsI t, IsI b, IsI (iniC t b)] 4) (js_if (b1 := decide (b < 0)) (jt_cmp (pt_cmpR op_lt (jv 2) jI (nomark _)) rop_lt) (fun h => js_one (js_N (js_set (R := IsI (iniC t b)) (ps_set (i := 3) nd rfl (.inl rfl) (je_eq (je_op (pe_op op_sub jI (jv 3)) rop_sub) ?_))) ?_)) (fun h => js_nil ?_)) ?_
  · unfold iniC
    rw [if_pos (of_decide_eq_true h)]
  · rintro G' rfl
    rfl
  · unfold iniC
    rw [if_neg (of_decide_eq_false h)]
    rfl
  · refine js_initE Z.F (fun i s h => ?_) rfl (je_op (pe_op op_fdW (jv 1) (jv 3)) (rop_fdW ⟨iniC_ne t b hp.1, Nat.lt_of_le_of_lt hg hp.2⟩)) (fun E => je_op (pe_op op_fdW (jv 2) (jv 3)) (rop_fdW ⟨iniC_ne t b hp.1, Nat.lt_of_le_of_lt hg hp.2⟩)) (pv 0) (pv 0)
    match i with
    | 0 => exact .inr ⟨_, (Option.some.inj h).symm⟩
    | 1 => exact .inr ⟨_, (Option.some.inj h).symm⟩
    | 2 => exact .inr ⟨_, (Option.some.inj h).symm⟩
    | 3 => exact .inr ⟨_, (Option.some.inj h).symm⟩
    | n + 4 => cases h
abbrev sp_Rsign (C : Addr) : Sp := Pr (ι := Rat) (fun q => [IsQ C q]) (fun _ => True) (fun q => IsI q.num.sign)
theorem ok_Rsign (Z : Glo K mg C)  {f : Addr} {fd : FuncData} (Fd : FnM K "sign" "Ratio.sign" st_Rsign f fd) : FnOk P w K mg base CX0 1 f fd ["self"] (sp_Rsign C) := by
  refine fn_pr Fd sc_Rsign (fun u => by first | rfl | (cases u <;> rfl)) (fun _ => False) (fun _ _ h => h.elim) (fun X u E hX hp hE => ?_)
  obtain ⟨cdv, A, outer, s, H, E', rfl, hr⟩ := hX
  refine PSs.nox ?_
  have nd := (sc_Rsign).nd
  replace hr : Room 0 (cxOf CX0 P w K mg base N_Rsign "Ratio.sign" (defScope st_Rsign) f cdv A outer s H E').nox.A := hr
  refine js_one (js_ret (je_eq (je_op (pe_op op_sub (jbT call_int1 Z.int boot_int (ja_cons (je_op (pe_cmpR op_gt (je_top Z.F (jv 0)) jI (nomark _)) rop_gt) ja_nil) rc_int) (jbT call_int1 Z.int boot_int (ja_cons (je_op (pe_cmpR op_lt (je_top Z.F (jv 0)) jI (nomark _)) rop_lt) ja_nil) rc_int)) rop_sub) ?_))
  rw [q_sgn]
abbrev sp_Rtop (C : Addr) : Sp := Pr (ι := Rat) (fun q => [IsQ C q]) (fun _ => True) (fun q => IsI q.num)
theorem ok_Rtop (Z : Glo K mg C)  {f : Addr} {fd : FuncData} (Fd : FnM K "top" "Ratio.top" st_Rtop f fd) : FnOk P w K mg base CX0 1 f fd ["self"] (sp_Rtop C) := by
  refine fn_pr Fd sc_Rtop (fun u => by first | rfl | (cases u <;> rfl)) (fun _ => False) (fun _ _ h => h.elim) (fun X u E hX hp hE => ?_)
  obtain ⟨cdv, A, outer, s, H, E', rfl, hr⟩ := hX
  refine PSs.nox ?_
  have nd := (sc_Rtop).nd
  replace hr : Room 0 (cxOf CX0 P w K mg base N_Rtop "Ratio.top" (defScope st_Rtop) f cdv A outer s H E').nox.A := hr
  exact js_one (js_ret (je_top Z.F (jv 0)))
abbrev sp_told_pair (C : Addr) : Sp := Pr (ι := Rat) (fun q => [IsNm C q]) (fun _ => True) (fun q => IsTp [IsI q.num, IsI (q.den : Int)])
abbrev Kn_told_pair (P : Program) (w : World) (K : PySem.W.Frag) (mg : Str → Option Value) (base : Heap) (C : Addr) : Prop := Kn P w K mg base "told_pair" 2 ["value"] (sp_told_pair C)
theorem ok_told_pair (Z : Glo K mg C) (k_is_integer : Kn_is_integer P w K mg base C) {f : Addr} {fd : FuncData} (Fd : FnP K "told_pair" st_told_pair f fd) : FnOk P w K mg base CX0 2 f fd ["value"] (sp_told_pair C) := by
  refine fn_pr Fd sc_told_pair (fun u => by first | rfl | (cases u <;> rfl)) (fun _ => False) (fun _ _ h => h.elim) (fun X u E hX hp hE => ?_)
  obtain ⟨cdv, A, outer, s, H, E', rfl, hr⟩ := hX
  refine PSs.nox ?_
  have nd := (sc_told_pair).nd
  replace hr : Room 1 (cxOf CX0 P w K mg base N_told_pair "told_pair" (defScope st_told_pair) f cdv A outer s H E').nox.A := hr
  rename Rat => q
  refine js_or (i := 0) (R1 := IsQ C q) (R2 := fun v F => ∃ i : Int, q = (i : Rat) ∧ v = .int i) rfl (fun v F F' h e => h.mono e) (fun v F F' h e => h) ?_ ?_
  · exact js_cons (N1 := fun _ => False) (js_if (b1 := true) (jt_val (pt_val (jbB call_isi Z.isi boot_isinstance (ja_cons (jv 0) (ja_cons (jglob (v := .ref C) Z.rat rfl) ja_nil)) (isi_Q (q := q) Z.F (.own C) Z.F.oo)))) (fun _ =>
      js_one (js_ret (je_tup (pe_tup (ja_cons (je_top Z.F (jv 0)) (ja_cons (je_bot Z.F (jv 0)) ja_nil)))))) (fun h => nomatch h)) (fun _ h => h.elim)
  · refine js_open (i := 0) (P := fun i : Int => q = (i : Rat)) (R := fun i => IsI i) (G := [.fz (Som (fun i : Int => q = (i : Rat)) fun i => IsI i)]) rfl (fun i v F F' h e => h) (fun i hi => ?_)
    subst hi
    refine js_seq (G1 := G0 [IsI i] 1) (js_if (b1 := false) (jt_val (pt_val (jbB call_isi Z.isi boot_isinstance (ja_cons (jv 0) (ja_cons (jglob (v := .ref C) Z.rat rfl) ja_nil)) (isi_IQ (i := i) Z.F)))) (fun h => nomatch h) (fun _ => js_nil rfl)) ?_
    refine js_seq (G1 := G0 [IsI i] 1) (js_if (b1 := false) (jt_not (b1 := true) (jt_val (pt_val (jc k_is_integer hr (.inl i) (ja_cons (jv 0) ja_nil) trivial)))) (fun h => nomatch h) (fun _ => js_nil rfl)) ?_
    exact js_one (js_ret (je_eq (je_tup (pe_tup (ja_cons (jv 0) (ja_cons jI ja_nil)))) rfl))
abbrev sp_R__add__ (C : Addr) : Sp := Pr (qA C) (fun w => Fits w.1 w.2) (fun w => IsQ C (w.1 + w.2))
theorem ok_R__add__ (Z : Glo K mg C) (mk : Mkr P w K mg base C 2) (k_told_pair : Kn_told_pair P w K mg base C) {f : Addr} {fd : FuncData} (Fd : FnM K "__add__" "Ratio.__add__" st_R__add__ f fd) : FnOk P w K mg base CX0 6 f fd ["self", "other"] (sp_R__add__ C) := by
  refine fn_pr Fd sc_R__add__ (fun u => by first | rfl | (cases u <;> rfl)) (fun _ => False) (fun _ _ h => h.elim) (fun X u E hX hp hE => ?_)
  obtain ⟨cdv, A, outer, s, H, E', rfl, hr⟩ := hX
  refine PSs.nox ?_
  have nd := (sc_R__add__).nd
  replace hr : Room 5 (cxOf CX0 P w K mg base N_R__add__ "Ratio.__add__" (defScope st_R__add__) f cdv A outer s H E').nox.A := hr
  obtain ⟨q, r⟩ := u
  have hp : Fits q r := hp
  refine js_seq (js_asg (ps_asg (jc k_told_pair (hr.mono (by decide)) r (ja_cons (jv 1) ja_nil) trivial) (jg2 2 3 nd))) ?_
  refine js_one (js_ret (je_eq (jmk2 mk (hr.mono (by decide)) (ja_cons (je_op (pe_op op_add (je_op (pe_op op_mulW (je_top Z.F (jv 0)) (jv 3)) (rop_mulW (fits_m1 hp))) (je_op (pe_op op_mulW (jv 2) (je_bot Z.F (jv 0))) (rop_mulW (fits_m2 hp)))) rop_add) (ja_cons (je_op (pe_op op_mulW (je_bot Z.F (jv 0)) (jv 3)) (rop_mulW (fits_m3 hp))) ja_nil)) (fits_ht hp)) ?_))
  rw [q_add]
abbrev sp_R__sub__ (C : Addr) : Sp := Pr (qA C) (fun w => Fits w.1 w.2) (fun w => IsQ C (w.1 - w.2))
theorem ok_R__sub__ (Z : Glo K mg C) (mk : Mkr P w K mg base C 2) (k_told_pair : Kn_told_pair P w K mg base C) {f : Addr} {fd : FuncData} (Fd : FnM K "__sub__" "Ratio.__sub__" st_R__sub__ f fd) : FnOk P w K mg base CX0 6 f fd ["self", "other"] (sp_R__sub__ C) := by
  refine fn_pr Fd sc_R__sub__ (fun u => by first | rfl | (cases u <;> rfl)) (fun _ => False) (fun _ _ h => h.elim) (fun X u E hX hp hE => ?_)
  obtain ⟨cdv, A, outer, s, H, E', rfl, hr⟩ := hX
  refine PSs.nox ?_
  have nd := (sc_R__sub__).nd
  replace hr : Room 5 (cxOf CX0 P w K mg base N_R__sub__ "Ratio.__sub__" (defScope st_R__sub__) f cdv A outer s H E').nox.A := hr
  obtain ⟨q, r⟩ := u
  have hp : Fits q r := hp
  refine js_seq (js_asg (ps_asg (jc k_told_pair (hr.mono (by decide)) r (ja_cons (jv 1) ja_nil) trivial) (jg2 2 3 nd))) ?_
  refine js_one (js_ret (je_eq (jmk2 mk (hr.mono (by decide)) (ja_cons (je_op (pe_op op_sub (je_op (pe_op op_mulW (je_top Z.F (jv 0)) (jv 3)) (rop_mulW (fits_m1 hp))) (je_op (pe_op op_mulW (jv 2) (je_bot Z.F (jv 0))) (rop_mulW (fits_m2 hp)))) rop_sub) (ja_cons (je_op (pe_op op_mulW (je_bot Z.F (jv 0)) (jv 3)) (rop_mulW (fits_m3 hp))) ja_nil)) (fits_ht hp)) ?_))
  rw [q_sub]
abbrev sp_R__rsub__ (C : Addr) : Sp := Pr (qA C) (fun w => Fits w.1 w.2) (fun w => IsQ C (w.2 - w.1))
theorem ok_R__rsub__ (Z : Glo K mg C) (mk : Mkr P w K mg base C 2) (k_told_pair : Kn_told_pair P w K mg base C) {f : Addr} {fd : FuncData} (Fd : FnM K "__rsub__" "Ratio.__rsub__" st_R__rsub__ f fd) : FnOk P w K mg base CX0 6 f fd ["self", "other"] (sp_R__rsub__ C) := by
  refine fn_pr Fd sc_R__rsub__ (fun u => by first | rfl | (cases u <;> rfl)) (fun _ => False) (fun _ _ h => h.elim) (fun X u E hX hp hE => ?_)
  obtain ⟨cdv, A, outer, s, H, E', rfl, hr⟩ := hX
  refine PSs.nox ?_
  have nd := (sc_R__rsub__).nd
  replace hr : Room 5 (cxOf CX0 P w K mg base N_R__rsub__ "Ratio.__rsub__" (defScope st_R__rsub__) f cdv A outer s H E').nox.A := hr
  obtain ⟨q, r⟩ := u
  have hp : Fits q r := hp
  refine js_seq (js_asg (ps_asg (jc k_told_pair (hr.mono (by decide)) r (ja_cons (jv 1) ja_nil) trivial) (jg2 2 3 nd))) ?_
  refine js_one (js_ret (je_eq (jmk2 mk (hr.mono (by decide)) (ja_cons (je_op (pe_op op_sub (je_op (pe_op op_mulW (jv 2) (je_bot Z.F (jv 0))) (rop_mulW (fits_m2 hp))) (je_op (pe_op op_mulW (je_top Z.F (jv 0)) (jv 3)) (rop_mulW (fits_m1 hp)))) rop_sub) (ja_cons (je_op (pe_op op_mulW (je_bot Z.F (jv 0)) (jv 3)) (rop_mulW (fits_m3 hp))) ja_nil)) (fits_ht hp)) ?_))
  rw [q_rsub]
abbrev sp_R__mul__ (C : Addr) : Sp := Pr (qA C) (fun w => Fits w.1 w.2) (fun w => IsQ C (w.1 * w.2))
theorem ok_R__mul__ (Z : Glo K mg C) (mk : Mkr P w K mg base C 2) (k_told_pair : Kn_told_pair P w K mg base C) {f : Addr} {fd : FuncData} (Fd : FnM K "__mul__" "Ratio.__mul__" st_R__mul__ f fd) : FnOk P w K mg base CX0 6 f fd ["self", "other"] (sp_R__mul__ C) := by
  refine fn_pr Fd sc_R__mul__ (fun u => by first | rfl | (cases u <;> rfl)) (fun _ => False) (fun _ _ h => h.elim) (fun X u E hX hp hE => ?_)
  obtain ⟨cdv, A, outer, s, H, E', rfl, hr⟩ := hX
  refine PSs.nox ?_
  have nd := (sc_R__mul__).nd
  replace hr : Room 5 (cxOf CX0 P w K mg base N_R__mul__ "Ratio.__mul__" (defScope st_R__mul__) f cdv A outer s H E').nox.A := hr
  obtain ⟨q, r⟩ := u
  have hp : Fits q r := hp
  refine js_seq (js_asg (ps_asg (jc k_told_pair (hr.mono (by decide)) r (ja_cons (jv 1) ja_nil) trivial) (jg2 2 3 nd))) ?_
  refine js_one (js_ret (je_eq (jmk2 mk (hr.mono (by decide)) (ja_cons (je_op (pe_op op_mulW (je_top Z.F (jv 0)) (jv 2)) (rop_mulW (fits_m4 hp))) (ja_cons (je_op (pe_op op_mulW (je_bot Z.F (jv 0)) (jv 3)) (rop_mulW (fits_m3 hp))) ja_nil)) (fits_ht hp)) ?_))
  rw [q_mul]
abbrev sp_Rover (C : Addr) : Sp := Pr (qA C) (fun w => FitsO w.1 w.2) (fun w => IsQ C (w.1 / w.2))
theorem ok_Rover (Z : Glo K mg C) (mk : Mkr P w K mg base C 2) (k_told_pair : Kn_told_pair P w K mg base C) {f : Addr} {fd : FuncData} (Fd : FnM K "over" "Ratio.over" st_Rover f fd) : FnOk P w K mg base CX0 6 f fd ["self", "other"] (sp_Rover C) := by
  refine fn_pr Fd sc_Rover (fun u => by first | rfl | (cases u <;> rfl)) (fun _ => False) (fun _ _ h => h.elim) (fun X u E hX hp hE => ?_)
  obtain ⟨cdv, A, outer, s, H, E', rfl, hr⟩ := hX
  refine PSs.nox ?_
  have nd := (sc_Rover).nd
  replace hr : Room 5 (cxOf CX0 P w K mg base N_Rover "Ratio.over" (defScope st_Rover) f cdv A outer s H E').nox.A := hr
  obtain ⟨q, r⟩ := u
  have hp : FitsO q r := hp
  refine js_seq (js_asg (ps_asg (jc k_told_pair (hr.mono (by decide)) r (ja_cons (jv 1) ja_nil) trivial) (jg2 2 3 nd))) ?_
  have hn : r.num ≠ 0 := fun e => hp.1 (Rat.num_eq_zero.mp e)
  refine js_seq (G1 := G0 [IsQ C q, IsNm C r, IsI r.num, IsI (r.den : Int)] 4) (js_if (b1 := false) (jt_eq (jt_cmp (pt_cmpR op_eq (jv 2 (R := IsI r.num)) jI (nomark _)) rop_eqI) (decide_eq_false hn)) (fun h => nomatch h) (fun _ => js_nil rfl)) ?_
  refine js_one (js_ret (je_eq (jmk2 mk (hr.mono (by decide)) (ja_cons (je_op (pe_op op_mulW (je_top Z.F (jv 0)) (jv 3)) (rop_mulW (fitsO_m1 hp))) (ja_cons (je_op (pe_op op_mulW (je_bot Z.F (jv 0)) (jv 2)) (rop_mulW (fitsO_m2 hp))) ja_nil)) (fitsO_ht hp)) ?_))
  rw [q_over]
abbrev sp_Ris_below (C : Addr) : Sp := Pr (qA C) (fun w => Fits w.1 w.2) (fun w => IsB (decide (w.1 < w.2)))
theorem ok_Ris_below (Z : Glo K mg C) (k_told_pair : Kn_told_pair P w K mg base C) {f : Addr} {fd : FuncData} (Fd : FnM K "is_below" "Ratio.is_below" st_Ris_below f fd) : FnOk P w K mg base CX0 6 f fd ["self", "other"] (sp_Ris_below C) := by
  refine fn_pr Fd sc_Ris_below (fun u => by first | rfl | (cases u <;> rfl)) (fun _ => False) (fun _ _ h => h.elim) (fun X u E hX hp hE => ?_)
  obtain ⟨cdv, A, outer, s, H, E', rfl, hr⟩ := hX
  refine PSs.nox ?_
  have nd := (sc_Ris_below).nd
  replace hr : Room 5 (cxOf CX0 P w K mg base N_Ris_below "Ratio.is_below" (defScope st_Ris_below) f cdv A outer s H E').nox.A := hr
  obtain ⟨q, r⟩ := u
  have hp : Fits q r := hp
  refine js_seq (js_asg (ps_asg (jc k_told_pair (hr.mono (by decide)) r (ja_cons (jv 1) ja_nil) trivial) (jg2 2 3 nd))) ?_
  refine js_one (js_ret (je_eq (je_op (pe_cmpR op_lt (je_op (pe_op op_mulW (je_top Z.F (jv 0)) (jv 3)) (rop_mulW (fits_m1 hp))) (je_op (pe_op op_mulW (jv 2) (je_bot Z.F (jv 0))) (rop_mulW (fits_m2 hp))) (nomark _)) rop_lt) ?_))
  rw [q_lt]
abbrev sp_R__eq__ (C : Addr) : Sp := spEqQ C
theorem ok_R__eq__ (Z : Glo K mg C)  {f : Addr} {fd : FuncData} (Fd : FnM K "__eq__" "Ratio.__eq__" st_R__eq__ f fd) : FnOk P w K mg base CX0 1 f fd ["self", "other"] (sp_R__eq__ C) := by
  refine fn_pr Fd sc_R__eq__ (fun u => by first | rfl | (cases u <;> rfl)) (fun _ => False) (fun _ _ h => h.elim) (fun X u E hX hp hE => ?_)
  obtain ⟨cdv, A, outer, s, H, E', rfl, hr⟩ := hX
  refine PSs.nox ?_
  have nd := (sc_R__eq__).nd
  replace hr : Room 0 (cxOf CX0 P w K mg base N_R__eq__ "Ratio.__eq__" (defScope st_R__eq__) f cdv A outer s H E').nox.A := hr
  obtain ⟨q, r⟩ := u
  refine js_seq (G1 := G0 [IsQ C q, IsQ C r] 2) (js_if (b1 := false) (jt_not (b1 := true) (jt_val (pt_val (jbB call_isi Z.isi boot_isinstance (ja_cons (jv 1) (ja_cons (jglob (v := .ref C) Z.rat rfl) ja_nil)) (isi_Q (q := r) Z.F (.own C) Z.F.oo))))) (fun h => nomatch h) (fun _ => js_nil rfl)) ?_
  refine js_one (js_ret (je_eq (je_and (je_op (pe_cmpR op_eq (je_top Z.F (jv 0)) (je_top Z.F (jv 1)) (nomark _)) rop_eqI) fun _ => pe_one (je_op (pe_cmpR op_eq (je_bot Z.F (jv 0)) (je_bot Z.F (jv 1)) (nomark _)) rop_eqI)) ?_))
  rw [q_eq]
abbrev sp_is_number (C : Addr) : Sp := Pr (ι := Rat) (fun q => [IsNm C q]) (fun _ => True) (fun q => IsB true)
abbrev Kn_is_number (P : Program) (w : World) (K : PySem.W.Frag) (mg : Str → Option Value) (base : Heap) (C : Addr) : Prop := Kn P w K mg base "is_number" 2 ["value"] (sp_is_number C)
theorem ok_is_number (Z : Glo K mg C) (k_is_integer : Kn_is_integer P w K mg base C) {f : Addr} {fd : FuncData} (Fd : FnP K "is_number" st_is_number f fd) : FnOk P w K mg base CX0 2 f fd ["value"] (sp_is_number C) := by
  refine fn_pr Fd sc_is_number (fun u => by first | rfl | (cases u <;> rfl)) (fun _ => False) (fun _ _ h => h.elim) (fun X u E hX hp hE => ?_)
  obtain ⟨cdv, A, outer, s, H, E', rfl, hr⟩ := hX
  refine PSs.nox ?_
  have nd := (sc_is_number).nd
  replace hr : Room 1 (cxOf CX0 P w K mg base N_is_number "is_number" (defScope st_is_number) f cdv A outer s H E').nox.A := hr
  rename Rat => q
  refine js_or (i := 0) (R1 := IsQ C q) (R2 := fun v F => ∃ i : Int, q = (i : Rat) ∧ v = .int i) rfl (fun v F F' h e => h.mono e) (fun v F F' h e => h) ?_ ?_
  · exact js_one (js_ret (je_eq (je_or (b1 := false) (b2 := true) (jc k_is_integer hr (.inr q) (ja_cons (jv 0) ja_nil) trivial) fun _ => pe_one (jbB call_isi Z.isi boot_isinstance (ja_cons (jv 0) (ja_cons (jglob (v := .ref C) Z.rat rfl) ja_nil)) (isi_Q (q := q) Z.F (.own C) Z.F.oo))) rfl))
  · refine js_open (i := 0) (P := fun i : Int => q = (i : Rat)) (R := fun i => IsI i) (G := [.fz (Som (fun i : Int => q = (i : Rat)) fun i => IsI i)]) rfl (fun i v F F' h e => h) (fun i hi => ?_)
    exact js_one (js_ret (je_eq (je_or (b1 := true) (b2 := true) (jc k_is_integer hr (.inl i) (ja_cons (jv 0) ja_nil) trivial) (fun h => nomatch h)) rfl))
abbrev sp_ratio_of (C : Addr) : Sp := Pr (ι := Rat) (fun q => [IsNm C q]) (fun _ => True) (fun q => IsQ C q)
abbrev Kn_ratio_of (P : Program) (w : World) (K : PySem.W.Frag) (mg : Str → Option Value) (base : Heap) (C : Addr) : Prop := Kn P w K mg base "ratio_of" 5 ["number"] (sp_ratio_of C)
theorem ok_ratio_of (Z : Glo K mg C) (mk : Mkr P w K mg base C 2) {f : Addr} {fd : FuncData} (Fd : FnP K "ratio_of" st_ratio_of f fd) : FnOk P w K mg base CX0 5 f fd ["number"] (sp_ratio_of C) := by
  refine fn_pr Fd sc_ratio_of (fun u => by first | rfl | (cases u <;> rfl)) (fun _ => False) (fun _ _ h => h.elim) (fun X u E hX hp hE => ?_)
  obtain ⟨cdv, A, outer, s, H, E', rfl, hr⟩ := hX
  refine PSs.nox ?_
  have nd := (sc_ratio_of).nd
  replace hr : Room 4 (cxOf CX0 P w K mg base N_ratio_of "ratio_of" (defScope st_ratio_of) f cdv A outer s H E').nox.A := hr
  rename Rat => q
  refine js_or (i := 0) (R1 := IsQ C q) (R2 := fun v F => ∃ i : Int, q = (i : Rat) ∧ v = .int i) rfl (fun v F F' h e => h.mono e) (fun v F F' h e => h) ?_ ?_
  · exact js_one (js_ret (je_if (b1 := true) (jt_val (pt_val (jbB call_isi Z.isi boot_isinstance (ja_cons (jv 0) (ja_cons (jglob (v := .ref C) Z.rat rfl) ja_nil)) (isi_Q (q := q) Z.F (.own C) Z.F.oo)))) (fun _ => jv 0) (fun h => nomatch h)))
  · refine js_open (i := 0) (P := fun i : Int => q = (i : Rat)) (R := fun i => IsI i) (G := [.fz (Som (fun i : Int => q = (i : Rat)) fun i => IsI i)]) rfl (fun i v F F' h e => h) (fun i hi => ?_)
    subst hi
    exact js_one (js_ret (je_if (b1 := false) (jt_val (pt_val (jbB call_isi Z.isi boot_isinstance (ja_cons (jv 0) (ja_cons (jglob (v := .ref C) Z.rat rfl) ja_nil)) (isi_IQ (i := i) Z.F)))) (fun h => nomatch h) (fun _ => jmk1 mk (hr.mono (by decide)) (ja_cons (jv 0) ja_nil))))
abbrev sp_want_number (C : Addr) : Sp := Pr (ι := Rat) (fun q => [IsNm C q]) (fun _ => True) (fun q => IsQ C q)
abbrev Kn_want_number (P : Program) (w : World) (K : PySem.W.Frag) (mg : Str → Option Value) (base : Heap) (C : Addr) : Prop := Kn P w K mg base "want_number" 6 ["value"] (sp_want_number C)
theorem ok_want_number (Z : Glo K mg C) (k_is_number : Kn_is_number P w K mg base C) (k_ratio_of : Kn_ratio_of P w K mg base C) {f : Addr} {fd : FuncData} (Fd : FnP K "want_number" st_want_number f fd) : FnOk P w K mg base CX0 6 f fd ["value"] (sp_want_number C) := by
  refine fn_pr Fd sc_want_number (fun u => by first | rfl | (cases u <;> rfl)) (fun _ => False) (fun _ _ h => h.elim) (fun X u E hX hp hE => ?_)
  obtain ⟨cdv, A, outer, s, H, E', rfl, hr⟩ := hX
  refine PSs.nox ?_
  have nd := (sc_want_number).nd
  replace hr : Room 5 (cxOf CX0 P w K mg base N_want_number "want_number" (defScope st_want_number) f cdv A outer s H E').nox.A := hr
  rename Rat => q
  refine js_seq (G1 := G0 [IsNm C q] 1) (js_if (b1 := false) (jt_not (b1 := true) (jt_val (pt_val (jc k_is_number (hr.mono (by decide)) q (ja_cons (jv 0) ja_nil) trivial)))) (fun h => nomatch h) (fun _ => js_nil rfl)) ?_
  exact js_one (js_ret (jc k_ratio_of (hr.mono (by decide)) q (ja_cons (jv 0) ja_nil) trivial))
end
end Gw
/-! What the text's functions compute, in plain Lean; sizes. -/
namespace Gw
theorem foldl_take {α β : Type} {f : β → α → β} {b : β} {xs : List α} {i : Nat} {x : α} (h : xs[i]? = some x) : (xs.take (i + 1)).foldl f b = f ((xs.take i).foldl f b) x := by
  rw [List.take_add_one, h, List.foldl_append]
  rfl
theorem map_take {α β : Type} {f : α → β} {xs : List α} {i : Nat} {x : α} (h : xs[i]? = some x) : (xs.take (i + 1)).map f = (xs.take i).map f ++ [f x] := by
  rw [List.take_add_one, h, List.map_append]
  rfl
/-! ### ratios -/
def sumR (xs : List Rat) : Rat := xs.foldl (· + ·) 0
def FitsL : Rat → List Rat → Prop
  | _, [] => True
  | a, x :: xs => Fits a x ∧ FitsL (a + x) xs
theorem FitsL.at {xs : List Rat} : ∀ {a : Rat}, FitsL a xs → ∀ {i : Nat} {x : Rat}, xs[i]? = some x → Fits ((xs.take i).foldl (· + ·) a) x := by
  induction xs with
  | nil => intro a _ i x h; simp at h
  | cons y ys ih =>
    intro a h i x hx
    cases i with
    | zero =>
      simp at hx
      subst hx
      exact h.1
    | succ i => exact ih h.2 (by simpa using hx)
theorem FitsL.of {n : Nat} {xs : List Rat} : ∀ {a : Rat} {m : Nat}, Sz m a → (∀ x ∈ xs, Sz n x) → m + (n + 1) * xs.length ≤ 9000 → FitsL a xs := by
  induction xs with
  | nil => intro a m _ _ _; trivial
  | cons y ys ih =>
    intro a m ha hx hl
    have e : (n + 1) * (y :: ys).length = (n + 1) * ys.length + (n + 1) := by rw [List.length_cons, Nat.mul_succ]
    rw [e] at hl
    refine ⟨ha.fits (hx y (by simp)) (by omega), ih (m := m + n + 1) (ha.add (hx y (by simp))) (fun x hx' => hx x (by simp [hx'])) (by omega)⟩
theorem sz0 : Sz 1 (0 : Rat) := ⟨by decide, by decide⟩
theorem FitsL.zero {n : Nat} {xs : List Rat} (h : ∀ x ∈ xs, Sz n x) (hl : 1 + (n + 1) * xs.length ≤ 9000) : FitsL 0 xs := FitsL.of sz0 h hl
theorem sz_foldl {n : Nat} {xs : List Rat} : ∀ {a : Rat} {m : Nat}, Sz m a → (∀ x ∈ xs, Sz n x) → Sz (m + (n + 1) * xs.length) (xs.foldl (· + ·) a) := by
  induction xs with
  | nil => intro a m h _; exact h.mono (by omega)
  | cons y ys ih =>
    intro a m ha hx
    have e : (n + 1) * (y :: ys).length = (n + 1) * ys.length + (n + 1) := by rw [List.length_cons, Nat.mul_succ]
    rw [e]
    exact (ih (m := m + n + 1) (ha.add (hx y (by simp))) (fun x hx' => hx x (by simp [hx']))).mono (by omega)
theorem sz_sumR {n : Nat} {xs : List Rat} (h : ∀ x ∈ xs, Sz n x) : Sz (1 + (n + 1) * xs.length) (sumR xs) := sz_foldl sz0 h
def lcmD (xs : List Rat) : Nat := xs.foldl (fun b x => Nat.lcm b x.den) 1
def wholesL (xs : List Rat) : List Int := xs.map fun x => x.num * ((lcmD xs : Nat) : Int).fdiv (x.den : Int)
/-- one bound of the denominators -/
def WhP (xs : List Rat) : Prop := ∃ D : Nat, 0 < D ∧ D < 2 ^ 9000 ∧ ∀ x ∈ xs, x.den ∣ D ∧ x.num.natAbs < 2 ^ 20000
theorem foldl_lcm_dvd {D : Nat} {xs : List Rat} : ∀ {b : Nat}, b ∣ D → (∀ x ∈ xs, x.den ∣ D) → xs.foldl (fun b x => Nat.lcm b x.den) b ∣ D := by
  induction xs with
  | nil => intro b h _; exact h
  | cons y ys ih => intro b h hx; exact ih (Nat.lcm_dvd h (hx y (by simp))) (fun x hx' => hx x (by simp [hx']))
theorem lcmD_dvd {D : Nat} {xs : List Rat} (h : ∀ x ∈ xs, x.den ∣ D) : lcmD xs ∣ D := foldl_lcm_dvd (Nat.one_dvd D) h
theorem foldl_lcm_ge {xs : List Rat} : ∀ {b : Nat}, b ∣ xs.foldl (fun b x => Nat.lcm b x.den) b ∧ ∀ x ∈ xs, x.den ∣ xs.foldl (fun b x => Nat.lcm b x.den) b := by
  induction xs with
  | nil => intro b; exact ⟨Nat.dvd_refl b, fun x h => by simp at h⟩
  | cons y ys ih =>
    intro b
    have h := @ih (Nat.lcm b y.den)
    refine ⟨Nat.dvd_trans (Nat.dvd_lcm_left b y.den) h.1, fun x hx => ?_⟩
    rcases List.mem_cons.mp hx with e | e
    · subst e
      exact Nat.dvd_trans (Nat.dvd_lcm_right b x.den) h.1
    · exact h.2 x e
theorem den_dvd_lcmD {xs : List Rat} {x : Rat} (h : x ∈ xs) : x.den ∣ lcmD xs := foldl_lcm_ge.2 x h
/-! ### solved -/
def Bd (n : Nat) (row : List Int) : Prop := ∀ x ∈ row, x.natAbs < 2 ^ n
def gcdL (row : List Int) : Nat := row.foldl (fun c n => if n = 0 then c else Nat.gcd c n.natAbs) 0
def bareR (row : List Int) : List Int := if gcdL row > 1 then row.map fun n => n.fdiv ((gcdL row : Nat) : Int) else row
def clearedR (row head : List Int) (p : Nat) : List Int := if row[p]! = 0 then row else bareR ((row.zip head).map fun q => head[p]! * q.1 - row[p]! * q.2)
def firstAt (rows : List (List Int)) (p : Nat) : Int := match rows.findIdx? (fun r => decide (r[p]! ≠ 0)) with
  | some i => (i : Int)
  | none => -1
def headedR (row : List Int) (p : Nat) : List Int := if (bareR row)[p]! > 0 then bareR row else (bareR row).map fun n => 0 - n
structure St2 where
  left : List (List Int)
  found : List (List Int)
def stepI (p : Nat) (s : St2) : St2 := match s.left.findIdx? (fun r => decide (r[p]! ≠ 0)) with
  | some i => ⟨(s.left.take i ++ s.left.drop (i + 1)).map fun r => clearedR r (headedR s.left[i]! p) p, (s.found.map fun r => clearedR r (headedR s.left[i]! p) p) ++ [headedR s.left[i]! p]⟩
  | none => s
def wid (rows : List (List Int)) : Nat := if rows.length > 0 then rows[0]!.length else 0
def stepsTo (rows : List (List Int)) (k : Nat) : St2 := (List.range k).foldl (fun s p => stepI p s) ⟨rows, []⟩
def int_stepsR (rows : List (List Int)) : List (List Int) := (stepsTo rows (wid rows)).found
theorem stepsTo_succ (rows : List (List Int)) (k : Nat) : stepsTo rows (k + 1) = stepI k (stepsTo rows k) := by
  unfold stepsTo
  rw [List.range_succ, List.foldl_append]
  rfl
def headOf (row : List Int) : Nat := row.findIdx (fun n => decide (n ≠ 0))
def told_rowR (row : List Int) : List Rat := row.map fun n => Rat.divInt n row[headOf row]!
def steps_ofR (rows : List (List Rat)) : List (List Rat) := (int_stepsR (rows.map wholesL)).map told_rowR
/-! sizes -/
theorem Bd.mono {n m : Nat} {row : List Int} (h : Bd n row) (hm : n ≤ m) : Bd m row := fun x hx => Nat.lt_of_lt_of_le (h x hx) (Nat.pow_le_pow_right (by omega) hm)
theorem Bd.get {n : Nat} {row : List Int} (h : Bd n row) {p : Nat} (hp : p < row.length) : (row[p]!).natAbs < 2 ^ n := by
  rw [getElem!_pos row p hp]
  exact h _ (List.getElem_mem hp)
theorem gcdL_take_succ {row : List Int} {i : Nat} {x : Int} (h : row[i]? = some x) : gcdL (row.take (i + 1)) = if x = 0 then gcdL (row.take i) else Nat.gcd (gcdL (row.take i)) x.natAbs := by
  unfold gcdL
  rw [foldl_take h]
theorem gcdL_bd {n : Nat} {row : List Int} (h : Bd n row) : gcdL row < 2 ^ n := by
  unfold gcdL
  have all : ∀ (row : List Int) (c : Nat), c < 2 ^ n → (∀ x ∈ row, x.natAbs < 2 ^ n) → row.foldl (fun c n => if n = 0 then c else Nat.gcd c n.natAbs) c < 2 ^ n := by
    intro row
    induction row with
    | nil => intro c h _; exact h
    | cons x xs ih =>
      intro c hc hx
      rw [List.foldl_cons]
      refine ih _ ?_ (fun y hy => hx y (by simp [hy]))
      split
      · exact hc
      · exact Nat.lt_of_le_of_lt (Nat.le_of_dvd (by omega) (Nat.gcd_dvd_right _ _)) (hx x (by simp))
  exact all row 0 (Nat.two_pow_pos n) h
theorem natAbs_fdiv_le (a : Int) (b : Nat) : (a.fdiv (b : Int)).natAbs ≤ a.natAbs := by
  by_cases hb : b = 0
  · subst hb; simp
  · rw [Int.fdiv_eq_ediv_of_nonneg _ (by omega)]
    have : 0 < (b : Int) := by omega
    have h1 : a / (b : Int) * b ≤ a := Int.ediv_mul_le a (by omega)
    rcases Int.le_total 0 a with h | h
    · have h2 : 0 ≤ a / (b : Int) := Int.ediv_nonneg h (by omega)
      have h3 : a / (b : Int) ≤ a := Int.ediv_le_self _ h
      omega
    · have h2 : a ≤ a / (b : Int) := by
        rw [Int.le_ediv_iff_mul_le (by omega)]
        have := Int.mul_le_mul_of_nonpos_left (a := a) (b := (b : Int)) (c := 1) h (by omega)
        omega
      have h3 : a / (b : Int) ≤ 0 := by
        rcases Int.lt_or_le 0 (a / (b : Int)) with h4 | h4
        · have h5 : (1 : Int) ≤ a / (b : Int) := h4
          rw [Int.le_ediv_iff_mul_le (by omega)] at h5
          omega
        · exact h4
      omega
theorem bareR_bd {n : Nat} {row : List Int} (h : Bd n row) : Bd n (bareR row) := by
  unfold bareR
  split
  · intro x hx
    obtain ⟨y, hy, rfl⟩ := List.mem_map.mp hx
    exact Nat.lt_of_le_of_lt (natAbs_fdiv_le y _) (h y hy)
  · exact h
theorem bareR_len (row : List Int) : (bareR row).length = row.length := by
  unfold bareR
  split <;> simp
theorem clearedR_len {row head : List Int} {p : Nat} (h : row.length = head.length) : (clearedR row head p).length = row.length := by
  unfold clearedR
  split
  · rfl
  · rw [bareR_len]; simp [h]
theorem clearedR_bd {n : Nat} {row head : List Int} {p : Nat} (hr : Bd n row) (hh : Bd n head) (h1 : p < row.length) (h2 : p < head.length) : Bd (2 * n + 1) (clearedR row head p) := by
  unfold clearedR
  split
  · exact hr.mono (by omega)
  · refine bareR_bd fun x hx => ?_
    obtain ⟨q, hq, rfl⟩ := List.mem_map.mp hx
    obtain ⟨m1, m2⟩ := List.of_mem_zip hq
    have a1 : (head[p]! * q.1).natAbs < 2 ^ n * 2 ^ n := by rw [Int.natAbs_mul]; exact Nat.mul_lt_mul'' (hh.get h2) (hr _ m1)
    have a2 : (row[p]! * q.2).natAbs < 2 ^ n * 2 ^ n := by rw [Int.natAbs_mul]; exact Nat.mul_lt_mul'' (hr.get h1) (hh _ m2)
    have e : (2 : Nat) ^ (2 * n + 1) = 2 * (2 ^ n * 2 ^ n) := by rw [Nat.pow_succ, Nat.two_mul, Nat.pow_add]; omega
    omega
theorem headedR_len (row : List Int) (p : Nat) : (headedR row p).length = row.length := by
  unfold headedR
  split <;> simp [bareR_len]
theorem headedR_bd {n : Nat} {row : List Int} (h : Bd n row) (p : Nat) : Bd n (headedR row p) := by
  unfold headedR
  split
  · exact bareR_bd h
  · intro x hx
    obtain ⟨y, hy, rfl⟩ := List.mem_map.mp hx
    have := bareR_bd h y hy
    omega
/-- the rows at a step: width m, entries of b bits -/
structure Rect (m b : Nat) (rows : List (List Int)) : Prop where
  len : ∀ r ∈ rows, r.length = m
  bd : ∀ r ∈ rows, Bd b r
def bits (b k : Nat) : Nat := (b + 1) * 2 ^ k - 1
theorem bits_succ (b k : Nat) : bits b (k + 1) = 2 * bits b k + 1 := by
  unfold bits
  rw [Nat.pow_succ]
  have : 0 < (b + 1) * 2 ^ k := Nat.mul_pos (by omega) (Nat.two_pow_pos k)
  have e : (b + 1) * (2 ^ k * 2) = 2 * ((b + 1) * 2 ^ k) := by rw [← Nat.mul_assoc]; omega
  rw [e]
  omega
theorem bits_mono {b j k : Nat} (h : j ≤ k) : bits b j ≤ bits b k := by
  unfold bits
  have : (b + 1) * 2 ^ j ≤ (b + 1) * 2 ^ k := Nat.mul_le_mul_left _ (Nat.pow_le_pow_right (by omega) h)
  omega
theorem bits_zero (b : Nat) : bits b 0 = b := by unfold bits; simp
/-- the steps keep these -/
structure StOk (m b n : Nat) (s : St2) : Prop where
  l : Rect m (bits b s.found.length) s.left
  f : Rect m (bits b s.found.length) s.found
  n : s.left.length + s.found.length = n
theorem findIdx_some {α : Type} {p : α → Bool} {xs : List α} {i : Nat} (h : xs.findIdx? p = some i) : ∃ hi : i < xs.length, p xs[i] = true ∧ ∀ j (hj : j < i), p (xs[j]'(by omega)) = false := by
  obtain ⟨hi, h1, h2⟩ := List.findIdx?_eq_some_iff_getElem.mp h
  exact ⟨hi, h1, fun j hj => by simpa using h2 j hj⟩
theorem stepI_ok {m b n p : Nat} {s : St2} (h : StOk m b n s) (hp : p < m) : StOk m b n (stepI p s) := by
  unfold stepI
  split
  · rename_i i hi
    obtain ⟨hl, _, _⟩ := findIdx_some hi
    have hm : s.left[i]! ∈ s.left := by rw [getElem!_pos s.left i hl]; exact List.getElem_mem hl
    have hhl : (headedR s.left[i]! p).length = m := by rw [headedR_len]; exact h.l.len _ hm
    have hhb : Bd (bits b s.found.length) (headedR s.left[i]! p) := headedR_bd (h.l.bd _ hm) p
    have hlen : ((s.found.map fun r => clearedR r (headedR s.left[i]! p) p) ++ [headedR s.left[i]! p]).length = s.found.length + 1 := by simp
    have sub : ∀ r ∈ s.left.take i ++ s.left.drop (i + 1), r ∈ s.left := fun r hr => by
      rcases List.mem_append.mp hr with q | q
      · exact List.mem_of_mem_take q
      · exact List.mem_of_mem_drop q
    refine ⟨⟨fun r hr => ?_, fun r hr => ?_⟩, ⟨fun r hr => ?_, fun r hr => ?_⟩, ?_⟩
    · obtain ⟨y, hy, rfl⟩ := List.mem_map.mp hr
      rw [clearedR_len (by rw [hhl]; exact h.l.len _ (sub y hy))]
      exact h.l.len _ (sub y hy)
    · obtain ⟨y, hy, rfl⟩ := List.mem_map.mp hr
      show Bd (bits b _) _
      rw [hlen, bits_succ]
      exact clearedR_bd (h.l.bd _ (sub y hy)) hhb (by rw [h.l.len _ (sub y hy)]; exact hp) (by rw [hhl]; exact hp)
    · rcases List.mem_append.mp hr with q | q
      · obtain ⟨y, hy, rfl⟩ := List.mem_map.mp q
        rw [clearedR_len (by rw [hhl]; exact h.f.len _ hy)]
        exact h.f.len _ hy
      · rw [List.mem_singleton.mp q]
        exact hhl
    · show Bd (bits b _) _
      rw [hlen, bits_succ]
      rcases List.mem_append.mp hr with q | q
      · obtain ⟨y, hy, rfl⟩ := List.mem_map.mp q
        exact clearedR_bd (h.f.bd _ hy) hhb (by rw [h.f.len _ hy]; exact hp) (by rw [hhl]; exact hp)
      · rw [List.mem_singleton.mp q]
        exact hhb.mono (by omega)
    · show (List.map _ _).length + _ = n
      rw [hlen, List.length_map, List.length_append, List.length_take, List.length_drop]
      have := h.n
      omega
  · exact h
theorem stepsTo_ok {m b : Nat} {rows : List (List Int)} (h : Rect m b rows) : ∀ k, k ≤ m → StOk m b rows.length (stepsTo rows k)
  | 0, _ => by
    refine ⟨?_, ⟨fun r hr => by simp [stepsTo] at hr, fun r hr => by simp [stepsTo] at hr⟩, by simp [stepsTo]⟩
    show Rect m (bits b 0) rows
    rw [bits_zero]
    exact h
  | k + 1, hk => by
    rw [stepsTo_succ]
    exact stepI_ok (stepsTo_ok h k (by omega)) (by omega)
theorem wid_eq {m b : Nat} {rows : List (List Int)} (h : Rect m b rows) (hn : 0 < rows.length) : wid rows = m := by
  unfold wid
  rw [if_pos hn, getElem!_pos rows 0 hn]
  exact h.len _ (List.getElem_mem hn)
end Gw
set_option maxHeartbeats 4000000
namespace Gw
open PySem PySem.Spec PyProof.Rows L2
section
variable {P : Program} {w : World} {K : PySem.W.Frag} {mg : Str → Option Value} {base : Heap} {C : Addr}
theorem line_of {n m : Nat} (h : n ≤ m) (hm : m < 100000 := by decide) : n < sizeLine := by
  have : (100000 : Nat) ≤ sizeLine := by decide
  omega
abbrev sp_is_list (_ : Addr) : Sp := Pr (ι := Unit) (fun _ => [IsLT]) (fun _ => True) (fun _ => IsB true)
abbrev Kn_is_list (P : Program) (w : World) (K : PySem.W.Frag) (mg : Str → Option Value) (base : Heap) (C : Addr) : Prop := Kn P w K mg base "is_list" 1 ["value"] (sp_is_list C)
theorem ok_is_list (Z : Glo K mg C)  {f : Addr} {fd : FuncData} (Fd : FnP K "is_list" st_is_list f fd) : FnOk P w K mg base CX0 1 f fd ["value"] (sp_is_list C) := by
  refine fn_pr Fd sc_is_list (fun u => by first | rfl | (cases u <;> rfl)) (fun _ => False) (fun _ _ h => h.elim) (fun X u E hX hp hE => ?_)
  obtain ⟨cdv, A, outer, s, H, E', rfl, hr⟩ := hX
  refine PSs.nox ?_
  have nd := (sc_is_list).nd
  replace hr : Room 0 (cxOf CX0 P w K mg base N_is_list "is_list" (defScope st_is_list) f cdv A outer s H E').nox.A := hr
  refine js_or (i := 0) (R1 := IsAL) (R2 := IsAT) rfl (fun v F F' h e => let ⟨a, vs, h1, h2⟩ := h; ⟨a, vs, h1, e _ _ h2⟩) (fun v F F' h e => let ⟨a, vs, h1, h2⟩ := h; ⟨a, vs, h1, e _ _ h2⟩) ?_ ?_
  · exact js_one (js_ret (jbB call_isiT Z.isi boot_isinstance (ja_cons (jv 0 (R := IsAL)) (ja_cons (je_tup (Rs := [IsC (.ty "list"), IsC (.ty "tuple")]) (pe_tup (ja_cons (jty Z.list boot_list) (ja_cons (jty Z.tuple boot_tuple) ja_nil)))) ja_nil)) (isi_al (cs := [.ty "list", .ty "tuple"]) (us := [.type "list", .type "tuple"]) (.cons (.ty _) (.cons (.ty _) .nil)) (kitAny_cons (b := true) (kit_ty (by decide +kernel)) (fun h => nomatch h) (fun _ => rfl)))))
  · exact js_one (js_ret (jbB call_isiT Z.isi boot_isinstance (ja_cons (jv 0 (R := IsAT)) (ja_cons (je_tup (Rs := [IsC (.ty "list"), IsC (.ty "tuple")]) (pe_tup (ja_cons (jty Z.list boot_list) (ja_cons (jty Z.tuple boot_tuple) ja_nil)))) ja_nil)) (isi_at (cs := [.ty "list", .ty "tuple"]) (us := [.type "list", .type "tuple"]) (.cons (.ty _) (.cons (.ty _) .nil)) (kitAny_cons (b := false) (kit_ty (by decide +kernel)) (fun _ => kitAny_cons (b := true) (kit_ty (by decide +kernel)) (fun h => nomatch h) (fun _ => rfl)) (fun h => nomatch h)))))
abbrev sp_total_of (C : Addr) : Sp := Pr (ι := List Rat) (fun xs => [IsL (IsQ C) xs]) (fun xs => FitsL 0 xs) (fun xs => IsQ C (sumR xs))
abbrev Kn_total_of (P : Program) (w : World) (K : PySem.W.Frag) (mg : Str → Option Value) (base : Heap) (C : Addr) : Prop := Kn P w K mg base "total_of" 7 ["ratios"] (sp_total_of C)
theorem ok_total_of (Z : Glo K mg C) (mk : Mkr P w K mg base C 2) (oadd : Opr P w K mg base C .Add 6 (fun w => Fits w.1 w.2) (· + ·)) {f : Addr} {fd : FuncData} (Fd : FnP K "total_of" st_total_of f fd) : FnOk P w K mg base CX0 7 f fd ["ratios"] (sp_total_of C) := by
  refine fn_pr Fd sc_total_of (fun u => by first | rfl | (cases u <;> rfl)) (fun _ => False) (fun _ _ h => h.elim) (fun X u E hX hp hE => ?_)
  obtain ⟨cdv, A, outer, s, H, E', rfl, hr⟩ := hX
  refine PSs.nox ?_
  have nd := (sc_total_of).nd
  replace hr : Room 6 (cxOf CX0 P w K mg base N_total_of "total_of" (defScope st_total_of) f cdv A outer s H E').nox.A := hr
  rename List Rat => xs
  refine js_seq (js_set (ps_set (i := 1) nd rfl (.inl rfl) (jmk1 mk (hr.mono (by decide)) (ja_cons jI ja_nil)))) ?_
  refine js_cons (N1 := fun G => ∃ s, G = [.fz (IsL (IsQ C) xs), .fz (IsQ C (sumR xs)), s]) (js_for PassesOwn.never rfl (ji_list (Rx := IsQ C) (xs := xs) (pi_list (jv 0))) (fun x => jg1 2 nd) (fun i G => ∃ s, G = [.fz (IsL (IsQ C) xs), .fz (IsQ C ((xs.take i).foldl (· + ·) 0)), s]) ⟨_, rfl⟩ ?_ (fun G1 h => by rwa [List.take_length] at h)) ?_
  · rintro i x G1 hx ⟨s, rfl⟩
    refine js_one (js_N (js_set (R := IsQ C ((xs.take (i + 1)).foldl (· + ·) 0)) (ps_set (i := 1) nd rfl (.inl rfl) (joQ oadd (hr.mono (by decide)) (jv 1) (jv 2) (FitsL.at hp hx) (by rw [foldl_take hx])))) ?_)
    rintro G' rfl
    exact ⟨_, rfl⟩
  · rintro _ ⟨s, rfl⟩
    exact js_one (js_ret (jv 1))
abbrev sp_wholes (C : Addr) : Sp := Pr (ι := List Rat) (fun xs => [IsL (IsQ C) xs]) (fun xs => WhP xs ∧ xs.length ≤ 1000) (fun xs => IsTp [IsU (lcmD xs), IsL IsI (wholesL xs)])
abbrev Kn_wholes (P : Program) (w : World) (K : PySem.W.Frag) (mg : Str → Option Value) (base : Heap) (C : Addr) : Prop := Kn P w K mg base "wholes" 1 ["ratios"] (sp_wholes C)
theorem ok_wholes (Z : Glo K mg C)  {f : Addr} {fd : FuncData} (Fd : FnP K "wholes" st_wholes f fd) : FnOk P w K mg base CX0 1 f fd ["ratios"] (sp_wholes C) := by
  refine fn_pr Fd sc_wholes (fun u => by first | rfl | (cases u <;> rfl)) (fun _ => False) (fun _ _ h => h.elim) (fun X u E hX hp hE => ?_)
  obtain ⟨cdv, A, outer, s, H, E', rfl, hr⟩ := hX
  refine PSs.nox ?_
  have nd := (sc_wholes).nd
  replace hr : Room 0 (cxOf CX0 P w K mg base N_wholes "wholes" (defScope st_wholes) f cdv A outer s H E').nox.A := hr
  rename List Rat => xs
  obtain ⟨⟨D, hD0, hD, hx⟩, hz⟩ := hp
  have hl : ∀ ys : List Rat, (∀ y ∈ ys, y ∈ xs) → lcmD ys < 2 ^ 9000 := fun ys hy => Nat.lt_of_le_of_lt (Nat.le_of_dvd hD0 (lcmD_dvd fun y h => (hx y (hy y h)).1)) hD
  have hden : ∀ x ∈ xs, x.den < 2 ^ 9000 := fun x h => Nat.lt_of_le_of_lt (Nat.le_of_dvd hD0 (hx x h).1) hD
  refine js_seq (js_set (R := IsU 1) (ps_set (i := 1) nd rfl (.inr rfl) jI)) ?_
  refine js_cons (N1 := fun G => ∃ s, G = [.fz (IsL (IsQ C) xs), .fz (IsU (lcmD xs)), s]) (js_for PassesOwn.never rfl (ji_list (Rx := IsQ C) (xs := xs) (pi_list (jv 0))) (fun x => jg1 2 nd) (fun i G => ∃ s, G = [.fz (IsL (IsQ C) xs), .fz (IsU (lcmD (xs.take i))), s]) ⟨_, rfl⟩ ?_ (fun G1 h => by rwa [List.take_length] at h)) ?_
  · rintro i x G1 hi ⟨s, rfl⟩
    have m1 : x ∈ xs := List.mem_of_getElem? hi
    have b1 := hl (xs.take i) (fun y h => List.mem_of_mem_take h)
    have b2 := hden x m1
    have b3 := hl (xs.take (i + 1)) (fun y h => List.mem_of_mem_take h)
    have e : Nat.lcm (lcmD (xs.take i)) x.den = lcmD (xs.take (i + 1)) := by unfold lcmD; rw [foldl_take hi]
    have o1 : (1 : Nat) < 2 ^ 9000 := Nat.one_lt_two_pow (by decide)
    refine js_one (js_N (js_set (R := IsU (lcmD (xs.take (i + 1)))) (ps_set (i := 1) nd rfl (.inr rfl) (je_eq (jbF cr_lcm Z.lcm (ja_cons (jv 1) (ja_cons (je_bot Z.F (jv 2)) ja_nil)) (rc_lcm ?_ ?_ ?_)) ?_))) ?_)
    · rw [Int.natAbs_natCast]
      exact Nat.lt_of_lt_of_le (log2_lt (n := 9000) (by decide) (by omega)) (by decide)
    · rw [Int.natAbs_natCast, Int.natAbs_natCast]
      exact Nat.lt_of_lt_of_le (log2_lt (n := 9000) (by decide) (by omega)) (by decide)
    · rw [Int.natAbs_natCast, Int.natAbs_natCast, e]
      exact Nat.lt_of_lt_of_le (log2_lt (n := 9000) (by decide) b3) (by decide)
    · rw [Int.natAbs_natCast, Int.natAbs_natCast, e]
    · rintro G' rfl
      exact ⟨_, rfl⟩
  · rintro _ ⟨s, rfl⟩
    refine js_one (js_ret (je_tup (pe_tup (ja_cons (jv 1) (ja_cons (je_m (jlc (fun x => x.num * ((lcmD xs : Nat) : Int).fdiv (x.den : Int)) [("ratio", 2)] nd (ji_list (Rx := IsQ C) (xs := xs) (pi_list (jv 0))) (fun s H C cl fp x => jg1 2 nd) (fun s H C cl fp x hx1 => ?_) (line_of hz))) ja_nil)))))
    have b := hl xs (fun y h => h)
    have d1 := hden x hx1
    exact je_op (pe_op op_mulW (je_top Z.F (jv 2)) (je_op (pe_op op_fdW (jv 1) (je_bot Z.F (jv 2))) (rop_fdW ⟨q_den0 x, by rw [Int.natAbs_natCast]; exact log2_lt (by decide) d1⟩))) (rop_mulW (mulW_of (n := 20000) (m := 9000) (hx x hx1).2 (Nat.lt_of_le_of_lt (natAbs_fdiv_le _ _) (by rw [Int.natAbs_natCast]; exact b)) (by decide) (by decide) (by decide)))
abbrev sp_Rtotal (C : Addr) : Sp := Pr (ι := List Rat) (fun xs => [IsC (.ref C), IsL (IsQ C) xs]) (fun xs => FitsL 0 xs ∧ xs.length ≤ 1000) (fun xs => IsQ C (sumR xs))
theorem ok_Rtotal (Z : Glo K mg C) (k_is_list : Kn_is_list P w K mg base C) (k_total_of : Kn_total_of P w K mg base C) (k_want_number : Kn_want_number P w K mg base C) {f : Addr} {fd : FuncData} (Fd : FnM K "total" "Ratio.total" st_Rtotal f fd) : FnOk P w K mg base CX0 8 f fd ["cls", "numbers"] (sp_Rtotal C) := by
  refine fn_pr Fd sc_Rtotal (fun u => by first | rfl | (cases u <;> rfl)) (fun _ => False) (fun _ _ h => h.elim) (fun X u E hX hp hE => ?_)
  obtain ⟨cdv, A, outer, s, H, E', rfl, hr⟩ := hX
  refine PSs.nox ?_
  have nd := (sc_Rtotal).nd
  replace hr : Room 7 (cxOf CX0 P w K mg base N_Rtotal "Ratio.total" (defScope st_Rtotal) f cdv A outer s H E').nox.A := hr
  rename List Rat => xs
  refine js_seq (G1 := G0 [IsC (.ref C), IsL (IsQ C) xs] 3) (js_if (b1 := false) (jt_not (b1 := true) (jt_val (pt_val (jc k_is_list (hr.mono (by decide)) () (ja_cons (je_conv (jv 1) lst_lt) ja_nil) trivial)))) (fun h => nomatch h) (fun _ => js_nil rfl)) ?_
  refine js_one (js_ret (jc k_total_of hr xs (ja_cons (je_eq (je_m (jlc (fun x => x) [("number", 2)] nd (ji_list (Rx := IsQ C) (xs := xs) (pi_list (jv 1))) (fun s H C cl fp x => jg1 2 nd) (fun s H C cl fp x hx => jc k_want_number (hr.mono (by decide)) x (ja_cons (je_conv (jv 2) isQ_nm) ja_nil) trivial) (line_of hp.2))) (by rw [List.map_id'])) ja_nil) hp.1))
/-! ### solved -/
abbrev sp_ints_of (C : Addr) : Sp := Pr (ι := List (List Rat)) (fun xs => [IsL (IsL (IsQ C)) xs]) (fun xs => (∀ x ∈ xs, WhP x ∧ x.length ≤ 1000) ∧ xs.length ≤ 1000) (fun xs => IsL (IsL IsI) (xs.map wholesL))
abbrev Kn_ints_of (P : Program) (w : World) (K : PySem.W.Frag) (mg : Str → Option Value) (base : Heap) (C : Addr) : Prop := Kn P w K mg base "ints_of" 2 ["rows"] (sp_ints_of C)
theorem ok_ints_of (Z : Glo K mg C) (k_wholes : Kn_wholes P w K mg base C) {f : Addr} {fd : FuncData} (Fd : FnP K "ints_of" st_ints_of f fd) : FnOk P w K mg base CX0 2 f fd ["rows"] (sp_ints_of C) := by
  refine fn_pr Fd sc_ints_of (fun u => by first | rfl | (cases u <;> rfl)) (fun _ => False) (fun _ _ h => h.elim) (fun X u E hX hp hE => ?_)
  obtain ⟨cdv, A, outer, s, H, E', rfl, hr⟩ := hX
  refine PSs.nox ?_
  have nd := (sc_ints_of).nd
  replace hr : Room 1 (cxOf CX0 P w K mg base N_ints_of "ints_of" (defScope st_ints_of) f cdv A outer s H E').nox.A := hr
  rename List (List Rat) => xs
  exact js_one (js_ret (je_m (jlc wholesL [("row", 1)] nd (ji_list (Rx := IsL (IsQ C)) (xs := xs) (pi_list (jv 0))) (fun s H C cl fp x => jg1 1 nd) (fun s H C cl fp x hx => je_op (pe_ix ix_tup (jc k_wholes hr x (ja_cons (jv 1) ja_nil) (hp.1 x hx)) jI (fun _ _ => rfl)) (rop_ixT (j := 1) rfl)) (line_of hp.2))))
abbrev sp_bare_row (_ : Addr) : Sp := Pr (ι := List Int) (fun xs => [IsL IsI xs]) (fun xs => Bd 9000 xs ∧ xs.length ≤ 1000) (fun xs => IsL IsI (bareR xs))
abbrev Kn_bare_row (P : Program) (w : World) (K : PySem.W.Frag) (mg : Str → Option Value) (base : Heap) (C : Addr) : Prop := Kn P w K mg base "bare_row" 2 ["row"] (sp_bare_row C)
theorem ok_bare_row (Z : Glo K mg C) (k_divisor_of : Kn_divisor_of P w K mg base C) {f : Addr} {fd : FuncData} (Fd : FnP K "bare_row" st_bare_row f fd) : FnOk P w K mg base CX0 2 f fd ["row"] (sp_bare_row C) := by
  refine fn_pr Fd sc_bare_row (fun u => by first | rfl | (cases u <;> rfl)) (fun _ => False) (fun _ _ h => h.elim) (fun X u E hX hp hE => ?_)
  obtain ⟨cdv, A, outer, s, H, E', rfl, hr⟩ := hX
  refine PSs.nox ?_
  have nd := (sc_bare_row).nd
  replace hr : Room 1 (cxOf CX0 P w K mg base N_bare_row "bare_row" (defScope st_bare_row) f cdv A outer s H E').nox.A := hr
  rename List Int => xs
  refine js_seq (js_set (R := IsU 0) (ps_set (i := 1) nd rfl (.inr rfl) jI)) ?_
  refine js_cons (N1 := fun G => ∃ s, G = [.fz (IsL IsI xs), .fz (IsU (gcdL xs)), s]) (js_for PassesOwn.never rfl (ji_list (Rx := IsI) (xs := xs) (pi_list (jv 0))) (fun x => jg1 2 nd) (fun i G => ∃ s, G = [.fz (IsL IsI xs), .fz (IsU (gcdL (xs.take i))), s]) ⟨_, rfl⟩ ?_ (fun G1 h => by rwa [List.take_length] at h)) ?_
  · rintro i x G1 hi ⟨s, rfl⟩
    refine js_one (js_if (b1 := !decide (x = 0)) (jt_cmp (pt_cmpR op_ne (jv 2) jI (nomark _)) rop_neI) (fun h => js_one (js_N (js_set (R := IsU (gcdL (xs.take (i + 1)))) (ps_set (i := 1) nd rfl (.inr rfl) (je_eq (jc k_divisor_of hr (((gcdL (xs.take i) : Nat) : Int), x) (ja_cons (jv 1) (ja_cons (jv 2) ja_nil)) trivial) ?_))) ?_)) (fun h => js_nil ?_))
    · have h : x ≠ 0 := by simpa using h
      show IsU _ = IsU _
      rw [gcdL_take_succ hi, if_neg h, Int.natAbs_natCast]
    · rintro G' rfl
      exact ⟨_, rfl⟩
    · have h : x = 0 := by simpa using h
      refine ⟨.fz (IsI x), ?_⟩
      rw [gcdL_take_succ hi, if_pos h]
      rfl
  · rintro _ ⟨s, rfl⟩
    refine js_one (js_ret (je_if (b1 := decide ((1 : Int) < (gcdL xs : Nat))) (jt_cmp (pt_cmpR op_gt (jv 1) jI (nomark _)) rop_gt) (fun h => je_eq (je_m (jlc (fun n => n.fdiv ((gcdL xs : Nat) : Int)) [("number", 2)] nd (ji_list (Rx := IsI) (xs := xs) (pi_list (jv 0))) (fun s H C cl fp x => jg1 2 nd) (fun s H C cl fp x hx => je_op (pe_op op_fdW (jv 2) (jv 1)) (rop_fdW ?_)) (line_of hp.2))) ?_) (fun h => je_eq (jv 0) ?_)))
    · have h := of_decide_eq_true h
      refine ⟨by omega, ?_⟩
      rw [Int.natAbs_natCast]
      exact log2_lt (by decide) (gcdL_bd hp.1)
    · have h := of_decide_eq_true h
      unfold bareR
      rw [if_pos (by omega)]
    · have h := of_decide_eq_false h
      unfold bareR
      rw [if_neg (by omega)]
abbrev sp_cleared (_ : Addr) : Sp := Pr (ι := List Int × List Int × Nat) (fun w => [IsL IsI w.1, IsL IsI w.2.1, IsU w.2.2]) (fun w => Bd 4000 w.1 ∧ Bd 4000 w.2.1 ∧ w.2.2 < w.1.length ∧ w.1.length = w.2.1.length ∧ w.1.length ≤ 1000) (fun w => IsL IsI (clearedR w.1 w.2.1 w.2.2))
abbrev Kn_cleared (P : Program) (w : World) (K : PySem.W.Frag) (mg : Str → Option Value) (base : Heap) (C : Addr) : Prop := Kn P w K mg base "cleared" 3 ["row", "head", "place"] (sp_cleared C)
theorem ok_cleared (Z : Glo K mg C) (k_bare_row : Kn_bare_row P w K mg base C) {f : Addr} {fd : FuncData} (Fd : FnP K "cleared" st_cleared f fd) : FnOk P w K mg base CX0 3 f fd ["row", "head", "place"] (sp_cleared C) := by
  refine fn_pr Fd sc_cleared (fun u => by first | rfl | (cases u <;> rfl)) (fun _ => False) (fun _ _ h => h.elim) (fun X u E hX hp hE => ?_)
  obtain ⟨cdv, A, outer, s, H, E', rfl, hr⟩ := hX
  refine PSs.nox ?_
  have nd := (sc_cleared).nd
  replace hr : Room 2 (cxOf CX0 P w K mg base N_cleared "cleared" (defScope st_cleared) f cdv A outer s H E').nox.A := hr
  obtain ⟨row, head, p⟩ := u
  obtain ⟨b1, b2, h1, h2, hz⟩ := hp
  have b1 : Bd 4000 row := b1
  have b2 : Bd 4000 head := b2
  have h1 : p < row.length := h1
  have h2 : row.length = head.length := h2
  have hz : row.length ≤ 1000 := hz
  refine js_cons (N1 := fun G => row[p]! ≠ 0 ∧ G = G0 [IsL IsI row, IsL IsI head, IsU p] 5) (js_if (b1 := decide (row[p]! = 0)) (jt_cmp (pt_cmpR op_eq (je_op (pe_ix ix_list (jv 0 (R := IsL IsI row)) (jv 2 (R := IsU p)) (fun _ _ => rfl)) (rop_ixB h1)) jI (nomark _)) rop_eqI) (fun h => js_one (js_ret (je_eq (jv 0) ?_))) (fun h => js_nil ⟨of_decide_eq_false h, rfl⟩)) ?_
  · show IsL IsI row = IsL IsI (clearedR row head p)
    unfold clearedR
    rw [if_pos (of_decide_eq_true h)]
  · rintro _ ⟨h0, rfl⟩
    refine js_one (js_ret (jc k_bare_row hr _ (ja_cons (je_m (jlc (fun q : Int × Int => head[p]! * q.1 - row[p]! * q.2) [("near", 4), ("far", 3)] nd (ji_zip (Rx := IsI) (Ry := IsI) (xs := row) (ys := head) (pi_zip rfl Z.zip (ja_cons (jv 0) (ja_cons (jv 1) ja_nil)))) (fun s H C cl fp x => jg2 4 3 nd) (fun s H C cl fp x hx => ?_) (line_of (m := 1000) (by rw [List.length_zip]; omega)))) ja_nil) ?_ ?_))
    · obtain ⟨m1, m2⟩ := List.of_mem_zip hx
      exact je_op (pe_op op_sub (je_op (pe_op op_mulW (je_op (pe_ix ix_list (jv 1 (R := IsL IsI head)) (jv 2 (R := IsU p)) (fun _ _ => rfl)) (rop_ixB (by omega))) (jv 4)) (rop_mulW (mulW_of (b2.get (by omega)) (b1 _ m1) (by decide) (by decide) (by decide)))) (je_op (pe_op op_mulW (je_op (pe_ix ix_list (jv 0 (R := IsL IsI row)) (jv 2 (R := IsU p)) (fun _ _ => rfl)) (rop_ixB h1)) (jv 3)) (rop_mulW (mulW_of (b1.get h1) (b2 _ m2) (by decide) (by decide) (by decide))))) rop_sub
    · refine ⟨?_, by rw [List.length_map, List.length_zip]; omega⟩
      intro x hx
      obtain ⟨q, hq, rfl⟩ := List.mem_map.mp hx
      obtain ⟨m1, m2⟩ := List.of_mem_zip hq
      have a1 : (head[p]! * q.1).natAbs < 2 ^ 4000 * 2 ^ 4000 := by rw [Int.natAbs_mul]; exact Nat.mul_lt_mul'' (b2.get (by omega)) (b1 _ m1)
      have a2 : (row[p]! * q.2).natAbs < 2 ^ 4000 * 2 ^ 4000 := by rw [Int.natAbs_mul]; exact Nat.mul_lt_mul'' (b1.get h1) (b2 _ m2)
      have e : (2 : Nat) ^ 8001 = 2 * (2 ^ 4000 * 2 ^ 4000) := by rw [← Nat.pow_add, ← Nat.pow_succ']
      have e2 : (2 : Nat) ^ 8001 ≤ 2 ^ 9000 := Nat.pow_le_pow_right (by decide) (by decide)
      generalize (2 : Nat) ^ 4000 * 2 ^ 4000 = z at *
      generalize (2 : Nat) ^ 9000 = z9 at *
      generalize (2 : Nat) ^ 8001 = z8 at *
      omega
    · show IsL IsI _ = IsL IsI (clearedR row head p)
      unfold clearedR
      rw [if_neg h0]
end
end Gw
set_option maxHeartbeats 4000000
namespace Gw
open PySem PySem.Spec PyProof.Rows L2
theorem run_neg {pp : Option Addr} {i : Int} : RUn pp (rU fun i => .int (-i)) (IsI i) (IsI (-i)) := fun x F H Q ok u k => ⟨i, u.here, k _ F H ok.gr fun _ _ => rfl⟩
section
variable {P : Program} {w : World} {K : PySem.W.Frag} {mg : Str → Option Value} {base : Heap} {C : Addr}
abbrev sp_first_at (_ : Addr) : Sp := Pr (ι := List (List Int) × Nat) (fun w => [IsL (IsL IsI) w.1, IsU w.2]) (fun w => ∀ r ∈ w.1, w.2 < r.length) (fun w => IsI (firstAt w.1 w.2))
abbrev Kn_first_at (P : Program) (w : World) (K : PySem.W.Frag) (mg : Str → Option Value) (base : Heap) (C : Addr) : Prop := Kn P w K mg base "first_at" 1 ["rows", "place"] (sp_first_at C)
theorem ok_first_at (Z : Glo K mg C)  {f : Addr} {fd : FuncData} (Fd : FnP K "first_at" st_first_at f fd) : FnOk P w K mg base CX0 1 f fd ["rows", "place"] (sp_first_at C) := by
  refine fn_pr Fd sc_first_at (fun u => by first | rfl | (cases u <;> rfl)) (fun _ => False) (fun _ _ h => h.elim) (fun X u E hX hp hE => ?_)
  obtain ⟨cdv, A, outer, s, H, E', rfl, hr⟩ := hX
  refine PSs.nox ?_
  have nd := (sc_first_at).nd
  replace hr : Room 0 (cxOf CX0 P w K mg base N_first_at "first_at" (defScope st_first_at) f cdv A outer s H E').nox.A := hr
  obtain ⟨rows, p⟩ := u
  have hp : ∀ r ∈ rows, p < r.length := hp
  refine js_cons (N1 := fun G => (∀ j, j < rows.length → rows[j]![p]! = 0) ∧ ∃ s t, G = [.fz (IsL (IsL IsI) rows), .fz (IsU p), s, t]) (js_for PassesOwn.never rfl (ji_enumN (Rx := IsL IsI) (xs := rows) (pi_enum rfl Z.enum (ja_cons (jv 0) ja_nil))) (fun x => jg2 2 3 nd)
    (fun i G => (∀ j, j < i → rows[j]![p]! = 0) ∧ ∃ s t, G = [.fz (IsL (IsL IsI) rows), .fz (IsU p), s, t]) ⟨fun j h => absurd h (by omega), _, _, rfl⟩ ?_ (fun G1 h => by rwa [enumN_len] at h)) ?_
  · rintro i ⟨n, r⟩ G1 hi ⟨h0, s, t, rfl⟩
    obtain ⟨e1, e2⟩ := enumN_get hi
    have e1 : n = i := e1
    have e2 : rows[i]? = some r := e2
    subst e1
    have hm := List.mem_of_getElem? e2
    have hr1 : rows[n]! = r := by
      obtain ⟨hl, e⟩ := List.getElem?_eq_some_iff.mp e2
      rw [getElem!_pos rows n hl, e]
    refine js_one (js_if (b1 := !decide (r[p]! = 0)) (jt_cmp (pt_cmpR op_ne (je_op (pe_ix ix_list (jv 3 (R := IsL IsI r)) (jv 1 (R := IsU p)) (fun _ _ => rfl)) (rop_ixB (hp r hm))) jI (nomark _)) rop_neI) (fun h => js_one (js_ret (je_eq (jv 2 (R := IsU n)) ?_))) (fun h => js_nil ⟨fun j hj => ?_, _, _, rfl⟩))
    · have h : r[p]! ≠ 0 := by simpa using h
      have hf : rows.findIdx? (fun r => decide (r[p]! ≠ 0)) = some n := by
        rw [List.findIdx?_eq_some_iff_getElem]
        obtain ⟨hl, e⟩ := List.getElem?_eq_some_iff.mp e2
        refine ⟨hl, by rw [e]; simpa using h, fun j hj => ?_⟩
        have := h0 j hj
        rw [getElem!_pos rows j (by omega)] at this
        simp [this]
      show IsU n = IsI (firstAt rows p)
      unfold firstAt
      rw [hf]
    · have h : r[p]! = 0 := by simpa using h
      by_cases q : j = n
      · rw [q, hr1]; exact h
      · exact h0 j (by omega)
  · rintro _ ⟨h0, s, t, rfl⟩
    refine js_one (js_ret (je_eq (je_un (pe_un un_neg jI) run_neg) ?_))
    have hf : rows.findIdx? (fun r => decide (r[p]! ≠ 0)) = none := by
      rw [List.findIdx?_eq_none_iff]
      intro r hr'
      obtain ⟨j, hj, e⟩ := List.getElem_of_mem hr'
      have := h0 j hj
      rw [getElem!_pos rows j hj, e] at this
      simp [this]
    show IsI (-1) = IsI (firstAt rows p)
    unfold firstAt
    rw [hf]
abbrev sp_headed_row (_ : Addr) : Sp := Pr (ι := List Int × Nat) (fun w => [IsL IsI w.1, IsU w.2]) (fun w => Bd 4000 w.1 ∧ w.2 < w.1.length ∧ w.1.length ≤ 1000) (fun w => IsL IsI (headedR w.1 w.2))
abbrev Kn_headed_row (P : Program) (w : World) (K : PySem.W.Frag) (mg : Str → Option Value) (base : Heap) (C : Addr) : Prop := Kn P w K mg base "headed_row" 3 ["row", "place"] (sp_headed_row C)
theorem ok_headed_row (Z : Glo K mg C) (k_bare_row : Kn_bare_row P w K mg base C) {f : Addr} {fd : FuncData} (Fd : FnP K "headed_row" st_headed_row f fd) : FnOk P w K mg base CX0 3 f fd ["row", "place"] (sp_headed_row C) := by
  refine fn_pr Fd sc_headed_row (fun u => by first | rfl | (cases u <;> rfl)) (fun _ => False) (fun _ _ h => h.elim) (fun X u E hX hp hE => ?_)
  obtain ⟨cdv, A, outer, s, H, E', rfl, hr⟩ := hX
  refine PSs.nox ?_
  have nd := (sc_headed_row).nd
  replace hr : Room 2 (cxOf CX0 P w K mg base N_headed_row "headed_row" (defScope st_headed_row) f cdv A outer s H E').nox.A := hr
  obtain ⟨row, p⟩ := u
  obtain ⟨b1, h1, hz⟩ := hp
  have b1 : Bd 4000 row := b1
  have h1 : p < row.length := h1
  have hz : row.length ≤ 1000 := hz
  refine js_seq (js_set (R := IsL IsI (bareR row)) (ps_set (i := 2) nd rfl (.inl rfl) (jc k_bare_row hr row (ja_cons (jv 0) ja_nil) ⟨b1.mono (by decide), hz⟩))) ?_
  refine js_one (js_ret (je_if (b1 := decide ((0 : Int) < (bareR row)[p]!)) (jt_cmp (pt_cmpR op_gt (je_op (pe_ix ix_list (jv 2 (R := IsL IsI (bareR row))) (jv 1 (R := IsU p)) (fun _ _ => rfl)) (rop_ixB (by rw [bareR_len]; exact h1))) jI (nomark _)) rop_gt) (fun h => je_eq (jv 2) ?_) (fun h => je_eq (je_m (jlc (fun n => 0 - n) [("number", 3)] nd (ji_list (Rx := IsI) (xs := bareR row) (pi_list (jv 2))) (fun s H C cl fp x => jg1 3 nd) (fun s H C cl fp x hx => je_op (pe_op op_sub jI (jv 3)) rop_sub) (line_of (m := 1000) (by rw [bareR_len]; exact hz)))) ?_)))
  · have h := of_decide_eq_true h
    show IsL IsI (bareR row) = IsL IsI (headedR row p)
    unfold headedR
    rw [if_pos h]
  · have h := of_decide_eq_false h
    show IsL IsI _ = IsL IsI (headedR row p)
    unfold headedR
    rw [if_neg h]
abbrev sp_head_of (_ : Addr) : Sp := Pr (ι := List Int) (fun w => [IsL IsI w]) (fun w => headOf w < w.length) (fun w => IsU (headOf w))
abbrev Kn_head_of (P : Program) (w : World) (K : PySem.W.Frag) (mg : Str → Option Value) (base : Heap) (C : Addr) : Prop := Kn P w K mg base "head_of" 1 ["row"] (sp_head_of C)
theorem ok_head_of (Z : Glo K mg C)  {f : Addr} {fd : FuncData} (Fd : FnP K "head_of" st_head_of f fd) : FnOk P w K mg base CX0 1 f fd ["row"] (sp_head_of C) := by
  refine fn_pr Fd sc_head_of (fun u => by first | rfl | (cases u <;> rfl)) (fun _ => False) (fun _ _ h => h.elim) (fun X u E hX hp hE => ?_)
  obtain ⟨cdv, A, outer, s, H, E', rfl, hr⟩ := hX
  refine PSs.nox ?_
  have nd := (sc_head_of).nd
  replace hr : Room 0 (cxOf CX0 P w K mg base N_head_of "head_of" (defScope st_head_of) f cdv A outer s H E').nox.A := hr
  rename List Int => row
  have hp : headOf row < row.length := hp
  refine js_seq (js_set (R := IsU 0) (ps_set (i := 1) nd rfl (.inl rfl) jI)) ?_
  refine js_seq (G1 := [.fz (IsL IsI row), .fz (IsU (headOf row))]) (js_while PassesOwn.never (fun m G => m ≤ headOf row ∧ G = [.fz (IsL IsI row), .fz (IsU (headOf row - m))]) (m0 := headOf row) ⟨Nat.le_refl _, by rw [Nat.sub_self]; rfl⟩ ?_) ?_
  · rintro m G1 ⟨hm, rfl⟩
    refine ⟨decide (row[headOf row - m]! = 0), jt_cmp (pt_cmpR op_eq (je_op (pe_ix ix_list (jv 0 (R := IsL IsI row)) (jv 1 (R := IsU (headOf row - m))) (fun _ _ => rfl)) (rop_ixB (by omega))) jI (nomark _)) rop_eqI, fun h => ?_, fun h => ?_⟩
    · have h := of_decide_eq_true h
      have hm0 : m ≠ 0 := fun e => by
        subst e
        rw [Nat.sub_zero, getElem!_pos row _ hp] at h
        have := List.findIdx_getElem (p := fun n : Int => decide (n ≠ 0)) (xs := row) (w := hp)
        exact of_decide_eq_true this h
      refine js_one (js_N (js_set (R := IsU (headOf row - (m - 1))) (ps_set (i := 1) nd rfl (.inl rfl) (je_eq (je_op (pe_op op_add (jv 1 (R := IsU (headOf row - m))) jI) rop_add) ?_))) ?_)
      · show IsI _ = IsI _
        congr 1
        omega
      · rintro G' rfl
        exact ⟨m - 1, by omega, by omega, rfl⟩
    · have h := of_decide_eq_false h
      have : m = 0 := by
        rcases Nat.eq_zero_or_pos m with q | q
        · exact q
        · have hl : headOf row - m < headOf row := by omega
          have := List.not_of_lt_findIdx (p := fun n : Int => decide (n ≠ 0)) (xs := row) hl
          rw [getElem!_pos row _ (by omega)] at h
          simp at this
          exact absurd this h
      subst this
      rfl
  · exact js_one (js_ret (jv 1))
abbrev sp_told_rows (C : Addr) : Sp := Pr (ι := List (List Int)) (fun w => [IsL (IsL IsI) w]) (fun w => w.length ≤ 1000 ∧ ∀ r ∈ w, headOf r < r.length ∧ Bd 4000 r ∧ r.length ≤ 1000) (fun w => IsL (IsL (IsQ C)) (w.map told_rowR))
abbrev Kn_told_rows (P : Program) (w : World) (K : PySem.W.Frag) (mg : Str → Option Value) (base : Heap) (C : Addr) : Prop := Kn P w K mg base "told_rows" 4 ["steps_now"] (sp_told_rows C)
theorem ok_told_rows (Z : Glo K mg C) (mk : Mkr P w K mg base C 2) (k_head_of : Kn_head_of P w K mg base C) {f : Addr} {fd : FuncData} (Fd : FnP K "told_rows" st_told_rows f fd) : FnOk P w K mg base CX0 4 f fd ["steps_now"] (sp_told_rows C) := by
  refine fn_pr Fd sc_told_rows (fun u => by first | rfl | (cases u <;> rfl)) (fun _ => False) (fun _ _ h => h.elim) (fun X u E hX hp hE => ?_)
  obtain ⟨cdv, A, outer, s, H, E', rfl, hr⟩ := hX
  refine PSs.nox ?_
  have nd := (sc_told_rows).nd
  replace hr : Room 3 (cxOf CX0 P w K mg base N_told_rows "told_rows" (defScope st_told_rows) f cdv A outer s H E').nox.A := hr
  rename List (List Int) => rows
  obtain ⟨hz, hp⟩ := hp
  refine js_seq (js_setM (Rm := LsOf (IsL (IsQ C)) []) (ps_set (i := 1) nd rfl (.inl rfl) (jm_ls [] (jm_lst (pe_lst ja_nil))))) ?_
  refine js_cons (N1 := fun G => ∃ s t, G = [.fz (IsL (IsL IsI) rows), .mt (LsOf (IsL (IsQ C)) (rows.map told_rowR)), s, t, .un]) (js_for PassesOwn.never rfl (ji_list (Rx := IsL IsI) (xs := rows) (pi_list (jv 0))) (fun x => jg1 2 nd) (fun i G => ∃ s t, G = [.fz (IsL (IsL IsI) rows), .mt (LsOf (IsL (IsQ C)) ((rows.take i).map told_rowR)), s, t, .un]) ⟨_, _, rfl⟩ ?_ (fun G1 h => by rwa [List.take_length] at h)) ?_
  · rintro i r G1 hi ⟨s, t, rfl⟩
    obtain ⟨h1, h2, h3⟩ := hp r (List.mem_of_getElem? hi)
    refine js_seq (js_set (R := IsI r[headOf r]!) (ps_set (i := 3) nd rfl (.inr rfl) (je_op (pe_ix ix_list (jv 2 (R := IsL IsI r)) (jc k_head_of (hr.mono (by decide)) r (ja_cons (jv 2) ja_nil) h1) (fun _ _ => rfl)) (rop_ixB h1)))) ?_
    refine js_one (js_N (js_append (R := IsL (IsQ C) (told_rowR r)) (Rm' := LsOf (IsL (IsQ C)) ((rows.take (i + 1)).map told_rowR)) (ps_expr (pe_bm PySem.F.plainAttrs_list PySem.F.slot_list_append PySem.F.type_list_append mt_append (pv 1) (pa_cons (je_m (jlc (fun n => Rat.divInt n r[headOf r]!) [("number", 4)] nd (ji_list (Rx := IsI) (xs := r) (pi_list (jv 2))) (fun s H C cl fp x => jg1 4 nd) (fun s H C cl fp x hx => jmk2 mk (hr.mono (by decide)) (ja_cons (jv 4) (ja_cons (jv 3) ja_nil)) ⟨?_, ?_⟩) (line_of h3))) pa_nil))) rfl (fun vs v F a b => ?_) (fun vs F a => ?_)) ?_)
    · rw [getElem!_pos r _ h1]
      have := List.findIdx_getElem (p := fun n : Int => decide (n ≠ 0)) (xs := r) (w := h1)
      exact of_decide_eq_true this
    · exact log2_lt (by decide) (Nat.lt_of_lt_of_le (h2.get h1) (Nat.pow_le_pow_right (by decide) (by decide)))
    · rw [map_take hi]
      exact (a.here.snoc b).up
    · rw [← a.len, List.length_map, List.length_take]
      exact line_of (m := 1000) (by omega)
    · rintro G' rfl
      exact ⟨_, _, rfl⟩
  · rintro _ ⟨s, t, rfl⟩
    exact js_one (js_retV (pv 1) rfl)
end
end Gw
set_option maxHeartbeats 4000000
namespace Gw
open PySem PySem.Spec PyProof.Rows L2
section
variable {P : Program} {w : World} {K : PySem.W.Frag} {mg : Str → Option Value} {base : Heap} {C : Addr}
def StepP (rows : List (List Int)) : Prop := ∃ m b, Rect m b rows ∧ bits b rows.length ≤ 4000 ∧ m ≤ 1000 ∧ rows.length ≤ 100
abbrev IsM : List (List Int) → V → Hp → Prop := IsL (IsL IsI)
abbrev sp_int_steps (_ : Addr) : Sp := Pr (ι := List (List Int)) (fun w => [IsM w]) StepP (fun w => IsM (int_stepsR w))
theorem firstAt_ge {rows : List (List Int)} {p : Nat} (h : decide (0 ≤ firstAt rows p) = true) : ∃ i, rows.findIdx? (fun r => decide (r[p]! ≠ 0)) = some i ∧ firstAt rows p = (i : Int) := by
  unfold firstAt at h ⊢
  cases e : rows.findIdx? (fun r => decide (r[p]! ≠ 0)) with
  | none => rw [e] at h; exact absurd h (by decide)
  | some i => exact ⟨i, rfl, rfl⟩
theorem firstAt_lt {rows : List (List Int)} {p : Nat} (h : decide (0 ≤ firstAt rows p) = false) : rows.findIdx? (fun r => decide (r[p]! ≠ 0)) = none := by
  unfold firstAt at h
  cases e : rows.findIdx? (fun r => decide (r[p]! ≠ 0)) with
  | none => rfl
  | some i =>
    rw [e] at h
    have : ¬ (0 : Int) ≤ (i : Int) := of_decide_eq_false h
    omega
abbrev Kn_int_steps (P : Program) (w : World) (K : PySem.W.Frag) (mg : Str → Option Value) (base : Heap) (C : Addr) : Prop := Kn P w K mg base "int_steps" 4 ["rows"] (sp_int_steps C)
theorem ok_int_steps (Z : Glo K mg C) (k_first_at : Kn_first_at P w K mg base C) (k_headed_row : Kn_headed_row P w K mg base C) (k_cleared : Kn_cleared P w K mg base C) {f : Addr} {fd : FuncData} (Fd : FnP K "int_steps" st_int_steps f fd) : FnOk P w K mg base CX0 4 f fd ["rows"] (sp_int_steps C) := by
  refine fn_pr Fd sc_int_steps (fun u => by first | rfl | (cases u <;> rfl)) (fun _ => False) (fun _ _ h => h.elim) (fun X u E hX hp hE => ?_)
  obtain ⟨cdv, A, outer, s, H, E', rfl, hr⟩ := hX
  refine PSs.nox ?_
  have nd := (sc_int_steps).nd
  replace hr : Room 3 (cxOf CX0 P w K mg base N_int_steps "int_steps" (defScope st_int_steps) f cdv A outer s H E').nox.A := hr
  rename List (List Int) => rows
  obtain ⟨m, b, hR, hb, hm, hz⟩ := hp
  refine js_seq (js_par (i := 1) (j := 2) (Ra := IsM rows) (Rb := IsM []) (ps_par (i := 1) (j := 2) rfl nd rfl rfl (by decide) rfl rfl (pa_cons (jv 0) (pa_cons (je_m (jm_ls [] (jm_lst (pe_lst ja_nil)))) pa_nil)) rfl)) ?_
  have hw : wid rows ≤ m := by
    rcases Nat.eq_zero_or_pos rows.length with h0 | h0
    · unfold wid; rw [if_neg (by omega)]; omega
    · rw [wid_eq hR h0]; exact Nat.le_refl m
  refine js_cons (N1 := fun G => ∃ s3 s4 s5 s6, G = [.fz (IsM rows), .fz (IsM (stepsTo rows (wid rows)).left), .fz (IsM (stepsTo rows (wid rows)).found), s3, s4, s5, s6, .un]) (js_for PassesOwn.never rfl (ji_rangeN (n := wid rows) (by omega) (pi_range1 rfl Z.range (ja_cons (je_if (b1 := decide ((0 : Int) < (rows.length : Int))) (jt_cmp (pt_cmpR op_gt (jbB call_len Z.len boot_len (ja_cons (jv 0 (R := IsM rows)) ja_nil) rc_len) jI (nomark _)) rop_gt) (fun h => je_eq (jbB call_len Z.len boot_len (ja_cons (je_op (pe_ix ix_list (jv 0 (R := IsM rows)) jI (fun _ _ => rfl)) (rop_ixB (j := 0) ?_)) ja_nil) rc_len) ?_) (fun h => je_eq jI ?_)) ja_nil))) (fun x => jg1 3 nd)
    (fun i G => ∃ s3 s4 s5 s6, G = [.fz (IsM rows), .fz (IsM (stepsTo rows i).left), .fz (IsM (stepsTo rows i).found), s3, s4, s5, s6, .un]) ⟨_, _, _, _, rfl⟩ ?_ (fun G1 h => by rwa [List.length_range] at h)) ?_
  · have h := of_decide_eq_true h
    omega
  · have h := of_decide_eq_true h
    show IsI _ = IsU (wid rows)
    unfold wid
    rw [if_pos (by omega)]
  · have h := of_decide_eq_false h
    show IsI 0 = IsU (wid rows)
    unfold wid
    rw [if_neg (by omega)]
    rfl
  · rintro i p G1 hi ⟨s3, s4, s5, s6, rfl⟩
    have hpi : p = i ∧ i < wid rows := by
      obtain ⟨hl, e⟩ := List.getElem?_eq_some_iff.mp hi
      rw [List.getElem_range] at e
      exact ⟨e.symm, by simpa using hl⟩
    obtain ⟨rfl, hpw⟩ := hpi
    have ok := stepsTo_ok hR p (by omega)
    have eS := stepsTo_succ rows p
    generalize stepsTo rows p = S at *
    generalize stepsTo rows (p + 1) = S' at *
    have hk : S.found.length ≤ rows.length := by have := ok.n; omega
    have hbb : bits b S.found.length ≤ 4000 := Nat.le_trans (bits_mono hk) hb
    have hl : S.left.length ≤ 100 := by have := ok.n; omega
    have hf : S.found.length ≤ 100 := by omega
    refine js_seq (js_set (R := IsI (firstAt S.left p)) (ps_set (i := 4) nd rfl (.inl rfl) (jc k_first_at (hr.mono (by decide)) (S.left, p) (ja_cons (jv 1) (ja_cons (jv 3) ja_nil)) (fun r h => by have := ok.l.len r h; show p < r.length; omega)))) ?_
    refine js_one (js_if (b1 := decide (0 ≤ firstAt S.left p)) (jt_cmp (pt_cmpR op_ge (jv 4 (R := IsI (firstAt S.left p))) jI (nomark _)) rop_ge) (fun h => ?_) (fun h => js_nil ?_))
    · obtain ⟨at_, e1, e2⟩ := firstAt_ge h
      obtain ⟨hal, hax, _⟩ := findIdx_some e1
      rw [e2]
      have hmem : S.left[at_]! ∈ S.left := by rw [getElem!_pos S.left at_ hal]; exact List.getElem_mem hal
      have hb0 : Bd 4000 S.left[at_]! := (ok.l.bd _ hmem).mono hbb
      have hl0 := ok.l.len _ hmem
      have hhb := headedR_bd hb0 p
      have hhl : (headedR S.left[at_]! p).length = m := by rw [headedR_len]; exact hl0
      have cl : ∀ r : List Int, Bd 4000 r → r.length = m → Bd 4000 r ∧ Bd 4000 (headedR S.left[at_]! p) ∧ p < r.length ∧ r.length = (headedR S.left[at_]! p).length ∧ r.length ≤ 1000 := fun r h1 h2 => ⟨h1, hhb, by omega, by omega, by omega⟩
      have sub : ∀ r ∈ S.left.take at_ ++ S.left.drop (at_ + 1), r ∈ S.left := fun r hr' => by
        rcases List.mem_append.mp hr' with q | q
        · exact List.mem_of_mem_take q
        · exact List.mem_of_mem_drop q
      refine js_seq (js_set (R := IsL IsI (headedR S.left[at_]! p)) (ps_set (i := 5) nd rfl (.inr rfl) (jc k_headed_row (hr.mono (by decide)) (S.left[at_]!, p) (ja_cons (je_op (pe_ix ix_list (jv 1 (R := IsM S.left)) (jv 4 (R := IsU at_)) (fun _ _ => rfl)) (rop_ixB hal)) (ja_cons (jv 3) ja_nil)) ⟨hb0, by show p < (S.left[at_]!).length; omega, by show (S.left[at_]!).length ≤ 1000; omega⟩))) ?_
      refine js_seq (js_set (R := IsM (S.left.take at_ ++ S.left.drop (at_ + 1))) (ps_set (i := 6) nd rfl (.inl rfl) (je_m (jm_op (pe_op op_cat (je_m (jm_slice (pe_slice sl_list (jv 1 (R := IsM S.left)) jo_none (jo_some (jv 4 (R := IsU at_)))) (cut_to _ at_ S.left rfl).symm)) (je_m (jm_slice (pe_slice sl_list (jv 1 (R := IsM S.left)) (jo_some (je_eq (R' := IsU (at_ + 1)) (je_op (pe_op op_add (jv 4 (R := IsU at_)) jI) rop_add) rfl)) jo_none) (cut_from _ (at_ + 1) S.left rfl).symm))) (rop_cat ?_))))) ?_
      · rw [List.length_take, List.length_drop]
        omega
      refine js_seq (js_set (R := IsM ((S.found.map fun r => clearedR r (headedR S.left[at_]! p) p) ++ [headedR S.left[at_]! p])) (ps_set (i := 2) nd rfl (.inl rfl) (je_m (jm_op (pe_op op_cat (je_m (jlc (fun r => clearedR r (headedR S.left[at_]! p) p) [("row", 7)] nd (ji_list (Rx := IsL IsI) (xs := S.found) (pi_list (jv 2))) (fun s H C cl fp x => jg1 7 nd) (fun s H C cl' fp x hx => jc k_cleared hr (x, headedR S.left[at_]! p, p) (ja_cons (jv 7) (ja_cons (jv 5) (ja_cons (jv 3) ja_nil))) (cl x ((ok.f.bd x hx).mono hbb) (ok.f.len x hx))) (line_of (m := 1000) (by omega)))) (je_m (jm_ls [headedR S.left[at_]! p] (jm_lst (pe_lst (ja_cons (jv 5) ja_nil)))))) (rop_cat ?_))))) ?_
      · rw [List.length_map]
        show _ + 1 ≤ _
        omega
      refine js_seq (jslc (i := 1) (fun r => clearedR r (headedR S.left[at_]! p) p) [("row", 7)] nd (ji_list (Rx := IsL IsI) (xs := S.left.take at_ ++ S.left.drop (at_ + 1)) (pi_list (jv 6))) (fun s H C cl fp x => jg1 7 nd) (fun s H C cl' fp x hx => jc k_cleared hr (x, headedR S.left[at_]! p, p) (ja_cons (jv 7) (ja_cons (jv 5) (ja_cons (jv 3) ja_nil))) (cl x ((ok.l.bd x (sub x hx)).mono hbb) (ok.l.len x (sub x hx)))) (line_of (m := 1000) ?_)) ?_
      · rw [List.length_append, List.length_take, List.length_drop]
        omega
      refine js_frz (i := 1) rfl (js_nil ?_)
      rw [eS]
      unfold stepI
      rw [e1]
      exact ⟨_, _, _, _, rfl⟩
    · have e1 := firstAt_lt h
      rw [eS]
      unfold stepI
      rw [e1]
      exact ⟨_, _, _, _, rfl⟩
  · rintro _ ⟨s3, s4, s5, s6, rfl⟩
    exact js_one (js_ret (jv 2))
end
end Gw
set_option maxHeartbeats 4000000
namespace Gw
open PySem PySem.Spec PyProof.Rows L2
section
variable {P : Program} {w : World} {K : PySem.W.Frag} {mg : Str → Option Value} {base : Heap} {C : Addr}
/-- what steps_of asks -/
def SolP (rows : List (List Rat)) : Prop := (∀ x ∈ rows, WhP x ∧ x.length ≤ 1000) ∧ rows.length ≤ 100 ∧ StepP (rows.map wholesL) ∧ (int_stepsR (rows.map wholesL)).length ≤ 1000 ∧ ∀ r ∈ int_stepsR (rows.map wholesL), headOf r < r.length ∧ Bd 4000 r ∧ r.length ≤ 1000
abbrev IsQM (C : Addr) : List (List Rat) → V → Hp → Prop := IsL (IsL (IsQ C))
abbrev sp_steps_of (C : Addr) : Sp := Pr (ι := List (List Rat)) (fun w => [IsQM C w]) SolP (fun w => IsQM C (steps_ofR w))
abbrev Kn_steps_of (P : Program) (w : World) (K : PySem.W.Frag) (mg : Str → Option Value) (base : Heap) (C : Addr) : Prop := Kn P w K mg base "steps_of" 5 ["rows"] (sp_steps_of C)
theorem ok_steps_of (Z : Glo K mg C) (k_told_rows : Kn_told_rows P w K mg base C) (k_int_steps : Kn_int_steps P w K mg base C) (k_ints_of : Kn_ints_of P w K mg base C) {f : Addr} {fd : FuncData} (Fd : FnP K "steps_of" st_steps_of f fd) : FnOk P w K mg base CX0 5 f fd ["rows"] (sp_steps_of C) := by
  refine fn_pr Fd sc_steps_of (fun u => by first | rfl | (cases u <;> rfl)) (fun _ => False) (fun _ _ h => h.elim) (fun X u E hX hp hE => ?_)
  obtain ⟨cdv, A, outer, s, H, E', rfl, hr⟩ := hX
  refine PSs.nox ?_
  have nd := (sc_steps_of).nd
  replace hr : Room 4 (cxOf CX0 P w K mg base N_steps_of "steps_of" (defScope st_steps_of) f cdv A outer s H E').nox.A := hr
  rename List (List Rat) => rows
  obtain ⟨h1, h2, h3, h4, h5⟩ := hp
  exact js_one (js_ret (jc k_told_rows (hr.mono (by decide)) _ (ja_cons (jc k_int_steps (hr.mono (by decide)) _ (ja_cons (jc k_ints_of (hr.mono (by decide)) rows (ja_cons (jv 0) ja_nil) ⟨h1, Nat.le_trans h2 (by decide)⟩) ja_nil) h3) ja_nil) ⟨h4, h5⟩))
/-! ### rules -/
abbrev IsSN (C : Addr) : List Rat → V → Hp → Prop := IsSq (IsNm C)
abbrev IsSNM (C : Addr) : List (List Rat) → V → Hp → Prop := IsSq (IsSq (IsNm C))
theorem all_true {α : Type} (xs : List α) : (xs.map fun _ => true).all id = true := by simp
abbrev sp_are_numbers (C : Addr) : Sp := Pr (ι := List Rat × Nat) (fun w => [IsSN C w.1, IsU w.2]) (fun w => w.1.length ≤ 1000) (fun w => IsB (decide (w.1.length = w.2)))
abbrev Kn_are_numbers (P : Program) (w : World) (K : PySem.W.Frag) (mg : Str → Option Value) (base : Heap) (C : Addr) : Prop := Kn P w K mg base "are_numbers" 3 ["value", "many"] (sp_are_numbers C)
theorem ok_are_numbers (Z : Glo K mg C) (k_is_list : Kn_is_list P w K mg base C) (k_is_number : Kn_is_number P w K mg base C) {f : Addr} {fd : FuncData} (Fd : FnP K "are_numbers" st_are_numbers f fd) : FnOk P w K mg base CX0 3 f fd ["value", "many"] (sp_are_numbers C) := by
  refine fn_pr Fd sc_are_numbers (fun u => by first | rfl | (cases u <;> rfl)) (fun _ => False) (fun _ _ h => h.elim) (fun X u E hX hp hE => ?_)
  obtain ⟨cdv, A, outer, s, H, E', rfl, hr⟩ := hX
  refine PSs.nox ?_
  have nd := (sc_are_numbers).nd
  replace hr : Room 2 (cxOf CX0 P w K mg base N_are_numbers "are_numbers" (defScope st_are_numbers) f cdv A outer s H E').nox.A := hr
  obtain ⟨xs, n⟩ := u
  have hp : xs.length ≤ 1000 := hp
  refine js_one (js_ret (je_eq (je_and (b1 := true) (jc k_is_list (hr.mono (by decide)) () (ja_cons (je_conv (jv 0 (R := IsSN C xs)) sq_lt) ja_nil) trivial) fun _ => je_and (b1 := decide ((xs.length : Int) = (n : Int))) (je_op (pe_cmpR op_eq (jbB call_len Z.len boot_len (ja_cons (jv 0 (R := IsSN C xs)) ja_nil) rc_lenS) (jv 1 (R := IsU n)) (nomark _)) rop_eqI)
    fun _ => pe_one (jbB (cr_all rfl) Z.all boot_all (ja_cons (je_m (jlc (Ry := IsB) (fun _ => true) [("number", 2)] nd (ji_seq (i := 0) (Rx := IsNm C) (xs := xs) (pi_list (pv 0)) (pi_tup (pv 0)) rfl) (fun s H C' cl fp x => jg1 2 nd) (fun s H C' cl fp x hx => jc k_is_number hr x (ja_cons (jv 2) ja_nil) trivial) (line_of hp))) ja_nil) rc_all)) ?_))
  show IsB _ = IsB (decide (xs.length = n))
  rw [all_true]
  congr 1
  rw [Bool.and_true, Bool.true_and, decide_eq_decide]
  omega
abbrev sp_is_table_of (C : Addr) : Sp := Pr (ι := List (List Rat) × Nat) (fun w => [IsSNM C w.1, IsU w.2]) (fun w => w.1.length ≤ 1000 ∧ ∀ r ∈ w.1, r.length ≤ 1000) (fun w => IsB (decide (w.1.length = w.2) && w.1.all fun r => decide (r.length = w.2)))
abbrev Kn_is_table_of (P : Program) (w : World) (K : PySem.W.Frag) (mg : Str → Option Value) (base : Heap) (C : Addr) : Prop := Kn P w K mg base "is_table_of" 4 ["value", "many"] (sp_is_table_of C)
theorem ok_is_table_of (Z : Glo K mg C) (k_is_list : Kn_is_list P w K mg base C) (k_are_numbers : Kn_are_numbers P w K mg base C) {f : Addr} {fd : FuncData} (Fd : FnP K "is_table_of" st_is_table_of f fd) : FnOk P w K mg base CX0 4 f fd ["value", "many"] (sp_is_table_of C) := by
  refine fn_pr Fd sc_is_table_of (fun u => by first | rfl | (cases u <;> rfl)) (fun _ => False) (fun _ _ h => h.elim) (fun X u E hX hp hE => ?_)
  obtain ⟨cdv, A, outer, s, H, E', rfl, hr⟩ := hX
  refine PSs.nox ?_
  have nd := (sc_is_table_of).nd
  replace hr : Room 3 (cxOf CX0 P w K mg base N_is_table_of "is_table_of" (defScope st_is_table_of) f cdv A outer s H E').nox.A := hr
  obtain ⟨xs, n⟩ := u
  have h1 : xs.length ≤ 1000 := hp.1
  refine js_one (js_ret (je_eq (je_and (b1 := true) (jc k_is_list (hr.mono (by decide)) () (ja_cons (je_conv (jv 0 (R := IsSNM C xs)) sq_lt) ja_nil) trivial) fun _ => je_and (b1 := decide ((xs.length : Int) = (n : Int))) (je_op (pe_cmpR op_eq (jbB call_len Z.len boot_len (ja_cons (jv 0 (R := IsSNM C xs)) ja_nil) rc_lenS) (jv 1 (R := IsU n)) (nomark _)) rop_eqI)
    fun _ => pe_one (jbB (cr_all rfl) Z.all boot_all (ja_cons (je_m (jlc (Ry := IsB) (fun r : List Rat => decide (r.length = n)) [("row", 2)] nd (ji_seq (i := 0) (Rx := IsSN C) (xs := xs) (pi_list (pv 0)) (pi_tup (pv 0)) rfl) (fun s H C' cl fp x => jg1 2 nd) (fun s H C' cl fp x hx => jc k_are_numbers hr (x, n) (ja_cons (jv 2) (ja_cons (jv 1) ja_nil)) (hp.2 x hx)) (line_of h1))) ja_nil) rc_all)) ?_))
  show IsB _ = IsB (decide (xs.length = n) && xs.all fun r => decide (r.length = n))
  rw [Bool.true_and, List.all_map]
  congr 2
  rw [decide_eq_decide]
  omega
abbrev sp_told_table (C : Addr) : Sp := Pr (ι := List (List Rat)) (fun w => [IsSNM C w]) (fun w => w.length ≤ 1000 ∧ ∀ r ∈ w, r.length ≤ 1000) (fun w => IsQM C w)
abbrev Kn_told_table (P : Program) (w : World) (K : PySem.W.Frag) (mg : Str → Option Value) (base : Heap) (C : Addr) : Prop := Kn P w K mg base "told_table" 6 ["value"] (sp_told_table C)
theorem ok_told_table (Z : Glo K mg C) (k_ratio_of : Kn_ratio_of P w K mg base C) {f : Addr} {fd : FuncData} (Fd : FnP K "told_table" st_told_table f fd) : FnOk P w K mg base CX0 6 f fd ["value"] (sp_told_table C) := by
  refine fn_pr Fd sc_told_table (fun u => by first | rfl | (cases u <;> rfl)) (fun _ => False) (fun _ _ h => h.elim) (fun X u E hX hp hE => ?_)
  obtain ⟨cdv, A, outer, s, H, E', rfl, hr⟩ := hX
  refine PSs.nox ?_
  have nd := (sc_told_table).nd
  replace hr : Room 5 (cxOf CX0 P w K mg base N_told_table "told_table" (defScope st_told_table) f cdv A outer s H E').nox.A := hr
  rename List (List Rat) => xs
  refine js_one (js_ret (je_eq (je_m (jlc (Ry := IsL (IsQ C)) (fun r => r) [("row", 2)] nd (ji_seq (i := 0) (Rx := IsSN C) (xs := xs) (pi_list (pv 0)) (pi_tup (pv 0)) rfl) (fun s H C' cl fp x => jg1 2 nd) (fun s H C' cl fp r hr' => ?_) (line_of hp.1))) (by rw [List.map_id']))
  )
  exact je_eq (je_m (jlc (Ry := IsQ C) (fun r => r) [("number", 1)] nd (ji_seq (i := 2) (Rx := IsNm C) (xs := r) (pi_list (pv 2)) (pi_tup (pv 2)) rfl) (fun s H C' cl fp x => jg1 1 nd) (fun s H C' cl fp x hx => jc k_ratio_of hr x (ja_cons (jv 1) ja_nil) trivial) (line_of (hp.2 r hr')))) (by rw [List.map_id'])
def ChP (xs : List Rat) : Prop := FitsL 0 xs ∧ xs.length ≤ 1000
abbrev sp_are_chances (C : Addr) : Sp := Pr (ι := List Rat) (fun w => [IsL (IsQ C) w]) ChP (fun w => IsB ((w.all fun x => decide (0 ≤ x)) && decide (sumR w = 1)))
abbrev Kn_are_chances (P : Program) (w : World) (K : PySem.W.Frag) (mg : Str → Option Value) (base : Heap) (C : Addr) : Prop := Kn P w K mg base "are_chances" 8 ["row"] (sp_are_chances C)
theorem ok_are_chances (Z : Glo K mg C) (psign : PropK P w K mg base C "sign" 1 (sp_Rsign C)) (k_total_of : Kn_total_of P w K mg base C) (mk : Mkr P w K mg base C 2) (oeq : EqK P w K mg base C 1) {f : Addr} {fd : FuncData} (Fd : FnP K "are_chances" st_are_chances f fd) : FnOk P w K mg base CX0 8 f fd ["row"] (sp_are_chances C) := by
  refine fn_pr Fd sc_are_chances (fun u => by first | rfl | (cases u <;> rfl)) (fun _ => False) (fun _ _ h => h.elim) (fun X u E hX hp hE => ?_)
  obtain ⟨cdv, A, outer, s, H, E', rfl, hr⟩ := hX
  refine PSs.nox ?_
  have nd := (sc_are_chances).nd
  replace hr : Room 7 (cxOf CX0 P w K mg base N_are_chances "are_chances" (defScope st_are_chances) f cdv A outer s H E').nox.A := hr
  rename List Rat => xs
  refine js_one (js_ret (je_eq (je_and (jbB (cr_all rfl) Z.all boot_all (ja_cons (je_m (jlc (Ry := IsB) (fun x : Rat => decide (0 ≤ x)) [("number", 1)] nd (ji_list (Rx := IsQ C) (xs := xs) (pi_list (jv 0))) (fun s H C' cl fp x => jg1 1 nd) (fun s H C' cl fp x hx => je_eq (je_op (pe_cmpR op_ge (jprop psign (hr.mono (by decide)) x (jv 1 (R := IsQ C x)) rfl trivial rfl) jI (nomark _)) rop_ge) (by rw [q_sgn_nn])) (line_of hp.2))) ja_nil) rc_all) fun _ => pe_one (jeqQ oeq (hr.mono (by decide)) (jc k_total_of hr xs (ja_cons (jv 0) ja_nil) hp.1) (jmk1 mk (hr.mono (by decide)) (ja_cons jI ja_nil)))) ?_))
  show IsB _ = IsB _
  rw [List.all_map]
  rfl
end
end Gw
set_option maxHeartbeats 4000000
namespace Gw
open PySem PySem.Spec PyProof.Rows L2
section
variable {P : Program} {w : World} {K : PySem.W.Frag} {mg : Str → Option Value} {base : Heap} {C : Addr}
/-- a proposal -/
structure PropP (rows : List (List Rat)) : Prop where
  lo : 2 ≤ rows.length
  hi : rows.length ≤ 6
  sq : ∀ r ∈ rows, r.length = rows.length
  nn : ∀ r ∈ rows, ∀ x ∈ r, 0 ≤ x
  one : ∀ r ∈ rows, sumR r = 1
  fit : ∀ r ∈ rows, FitsL 0 r
abbrev sp_want_proposal (C : Addr) : Sp := Pr (ι := List (List Rat)) (fun w => [IsSNM C w]) PropP (fun w => IsQM C w)
abbrev Kn_want_proposal (P : Program) (w : World) (K : PySem.W.Frag) (mg : Str → Option Value) (base : Heap) (C : Addr) : Prop := Kn P w K mg base "want_proposal" 9 ["value"] (sp_want_proposal C)
theorem ok_want_proposal (Z : Glo K mg C) (k_is_list : Kn_is_list P w K mg base C) (k_is_table_of : Kn_is_table_of P w K mg base C) (k_told_table : Kn_told_table P w K mg base C) (k_are_chances : Kn_are_chances P w K mg base C) {f : Addr} {fd : FuncData} (Fd : FnP K "want_proposal" st_want_proposal f fd) : FnOk P w K mg base CX0 9 f fd ["value"] (sp_want_proposal C) := by
  refine fn_pr Fd sc_want_proposal (fun u => by first | rfl | (cases u <;> rfl)) (fun _ => False) (fun _ _ h => h.elim) (fun X u E hX hp hE => ?_)
  obtain ⟨cdv, A, outer, s, H, E', rfl, hr⟩ := hX
  refine PSs.nox ?_
  have nd := (sc_want_proposal).nd
  replace hr : Room 8 (cxOf CX0 P w K mg base N_want_proposal "want_proposal" (defScope st_want_proposal) f cdv A outer s H E').nox.A := hr
  rename List (List Rat) => xs
  have hl : xs.length ≤ 1000 := by have := hp.hi; omega
  have hl2 : ∀ r ∈ xs, r.length ≤ 1000 := fun r h => by have := hp.hi; rw [hp.sq r h]; omega
  obtain ⟨t1, g1⟩ := Z.least
  obtain ⟨t2, g2⟩ := Z.most
  refine js_seq (G1 := G0 [IsSNM C xs] 3) (js_if (b1 := false) (jt_eq (PW.pt (jw_or (b1 := false) (jt_not (b1 := true) (jt_val (pt_val (jc k_is_list (hr.mono (by decide)) () (ja_cons (je_conv (jv 0 (R := IsSNM C xs)) sq_lt) ja_nil) trivial)))) fun _ => jw_or (b1 := false) (b2 := false) (jt_eq (jt_not (jt_chain (pt_chain op_le op_le (jgI g1) (jbB call_len Z.len boot_len (ja_cons (jv 0 (R := IsSNM C xs)) ja_nil) rc_lenS) (jgI g2)) rop_le rop_le)) ?_) fun _ => jw_or1 (jt_not (b1 := true) (jt_val (pt_val (jc k_is_table_of (hr.mono (by decide)) (xs, xs.length) (ja_cons (jv 0) (ja_cons (jbB call_len Z.len boot_len (ja_cons (jv 0 (R := IsSNM C xs)) ja_nil) rc_lenS) ja_nil)) ⟨hl, hl2⟩ ?_)))))) rfl) (fun h => nomatch h) (fun _ => js_nil rfl)) ?_
  · have h1 := hp.lo
    have h2 := hp.hi
    simp only [Bool.not_eq_false', Bool.and_eq_true, decide_eq_true_eq]
    omega
  · show IsB _ = IsB true
    congr 1
    simp only [Bool.and_eq_true, decide_eq_true_eq, List.all_eq_true, true_and]
    exact hp.sq
  refine js_seq (js_set (R := IsQM C xs) (ps_set (i := 1) nd rfl (.inl rfl) (jc k_told_table (hr.mono (by decide)) xs (ja_cons (jv 0) ja_nil) ⟨hl, hl2⟩))) ?_
  refine js_seq (G1 := [.fz (IsSNM C xs), .fz (IsQM C xs), .un]) (js_if (b1 := false) (jt_not (b1 := true) (jt_val (pt_val (je_eq (jbB (cr_all rfl) Z.all boot_all (ja_cons (je_m (jlc (Ry := IsB) (fun r : List Rat => (r.all fun x => decide (0 ≤ x)) && decide (sumR r = 1)) [("row", 2)] nd (ji_list (Rx := IsL (IsQ C)) (xs := xs) (pi_list (jv 1))) (fun s H C' cl fp x => jg1 2 nd) (fun s H C' cl fp x hx => jc k_are_chances hr x (ja_cons (jv 2) ja_nil) ⟨hp.fit x hx, hl2 x hx⟩) (line_of hl))) ja_nil) rc_all) ?_)))) (fun h => nomatch h) (fun _ => js_nil rfl)) ?_
  · show IsB _ = IsB true
    congr 1
    rw [List.all_map, List.all_eq_true]
    intro r h
    show ((r.all fun x => decide (0 ≤ x)) && decide (sumR r = 1)) = true
    rw [hp.one r h]
    simp only [Bool.and_eq_true, List.all_eq_true, decide_eq_true_eq, and_true]
    exact hp.nn r h
  exact js_one (js_ret (jv 1))
def WeiP (n : Nat) (ws : List Rat) : Prop := ws.length = n ∧ n ≤ 1000 ∧ ∀ x ∈ ws, 0 < x
abbrev sp_want_weights (C : Addr) : Sp := Pr (ι := List Rat × Nat) (fun w => [IsU w.2, IsSN C w.1]) (fun w => WeiP w.2 w.1) (fun w => IsL (IsQ C) w.1)
abbrev Kn_want_weights (P : Program) (w : World) (K : PySem.W.Frag) (mg : Str → Option Value) (base : Heap) (C : Addr) : Prop := Kn P w K mg base "want_weights" 6 ["places", "value"] (sp_want_weights C)
theorem ok_want_weights (Z : Glo K mg C) (k_are_numbers : Kn_are_numbers P w K mg base C) (k_ratio_of : Kn_ratio_of P w K mg base C) (psign : PropK P w K mg base C "sign" 1 (sp_Rsign C)) {f : Addr} {fd : FuncData} (Fd : FnP K "want_weights" st_want_weights f fd) : FnOk P w K mg base CX0 6 f fd ["places", "value"] (sp_want_weights C) := by
  refine fn_pr Fd sc_want_weights (fun u => by first | rfl | (cases u <;> rfl)) (fun _ => False) (fun _ _ h => h.elim) (fun X u E hX hp hE => ?_)
  obtain ⟨cdv, A, outer, s, H, E', rfl, hr⟩ := hX
  refine PSs.nox ?_
  have nd := (sc_want_weights).nd
  replace hr : Room 5 (cxOf CX0 P w K mg base N_want_weights "want_weights" (defScope st_want_weights) f cdv A outer s H E').nox.A := hr
  obtain ⟨xs, n⟩ := u
  obtain ⟨h1, h2, h3⟩ := hp
  have h1 : xs.length = n := h1
  have h2 : n ≤ 1000 := h2
  have h3 : ∀ x ∈ xs, 0 < x := h3
  refine js_seq (G1 := G0 [IsU n, IsSN C xs] 4) (js_if (b1 := false) (jt_not (b1 := true) (jt_val (pt_val (jc k_are_numbers (hr.mono (by decide)) (xs, n) (ja_cons (jv 1) (ja_cons (jv 0) ja_nil)) (by show xs.length ≤ 1000; omega) (by show IsB (decide (xs.length = n)) = IsB true; rw [decide_eq_true h1]))))) (fun h => nomatch h) (fun _ => js_nil rfl)) ?_
  refine js_seq (jslc (i := 2) (Ry := IsQ C) (fun x => x) [("number", 3)] nd (ji_seq (i := 1) (Rx := IsNm C) (xs := xs) (pi_list (pv 1)) (pi_tup (pv 1)) rfl) (fun s H C' cl fp x => jg1 3 nd) (fun s H C' cl fp x hx => jc k_ratio_of hr x (ja_cons (jv 3) ja_nil) trivial) (line_of (m := 1000) (by omega))) ?_
  rw [List.map_id']
  refine js_frz (i := 2) rfl ?_
  refine js_seq (G1 := [.fz (IsU n), .fz (IsSN C xs), .fz (IsL (IsQ C) xs), .un]) (js_if (b1 := false) (jt_not (b1 := true) (jt_val (pt_val (je_eq (jbB (cr_all rfl) Z.all boot_all (ja_cons (je_m (jlc (Ry := IsB) (fun x : Rat => decide (0 < x)) [("number", 3)] nd (ji_list (Rx := IsQ C) (xs := xs) (pi_list (jv 2))) (fun s H C' cl fp x => jg1 3 nd) (fun s H C' cl fp x hx => je_eq (je_op (pe_cmpR op_gt (jprop psign (hr.mono (by decide)) x (jv 3 (R := IsQ C x)) rfl trivial rfl) jI (nomark _)) rop_gt) (by rw [q_sgn_pos])) (line_of (m := 1000) (by omega)))) ja_nil) rc_all) ?_)))) (fun h => nomatch h) (fun _ => js_nil rfl)) ?_
  · show IsB _ = IsB true
    congr 1
    rw [List.all_map, List.all_eq_true]
    intro r h
    exact decide_eq_true (h3 r h)
  exact js_one (js_ret (jv 2))
/-! ### spreads -/
abbrev IsPn (C : Addr) (p : Rat × Rat) : V → Hp → Prop := IsTp [IsNm C p.1, IsNm C p.2]
abbrev IsPq (C : Addr) (p : Rat × Rat) : V → Hp → Prop := IsTp [IsQ C p.1, IsQ C p.2]
theorem pn_ts {C : Addr} {p : Rat × Rat} : ∀ v F, IsPn C p v F → IsTs (IsNm C) [p.1, p.2] v F := fun v F ⟨a, vs, e, h, u⟩ => ⟨a, vs, e, h, u.imp fun F q => args_ls q⟩
abbrev sp_is_part (C : Addr) : Sp := Pr (ι := Rat × Rat) (fun w => [IsPn C w]) (fun w => 0 < w.1 ∧ 0 ≤ w.2) (fun w => IsB true)
abbrev Kn_is_part (P : Program) (w : World) (K : PySem.W.Frag) (mg : Str → Option Value) (base : Heap) (C : Addr) : Prop := Kn P w K mg base "is_part" 6 ["value"] (sp_is_part C)
theorem ok_is_part (Z : Glo K mg C) (k_is_number : Kn_is_number P w K mg base C) (k_ratio_of : Kn_ratio_of P w K mg base C) (psign : PropK P w K mg base C "sign" 1 (sp_Rsign C)) {f : Addr} {fd : FuncData} (Fd : FnP K "is_part" st_is_part f fd) : FnOk P w K mg base CX0 6 f fd ["value"] (sp_is_part C) := by
  refine fn_pr Fd sc_is_part (fun u => by first | rfl | (cases u <;> rfl)) (fun _ => False) (fun _ _ h => h.elim) (fun X u E hX hp hE => ?_)
  obtain ⟨cdv, A, outer, s, H, E', rfl, hr⟩ := hX
  refine PSs.nox ?_
  have nd := (sc_is_part).nd
  replace hr : Room 5 (cxOf CX0 P w K mg base N_is_part "is_part" (defScope st_is_part) f cdv A outer s H E').nox.A := hr
  rename Rat × Rat => p
  refine js_seq (G1 := G0 [IsPn C p] 2) (js_if (b1 := false) (PW.pt (jw_or (b1 := false) (b2 := false) (jt_not (b1 := true) (jt_val (pt_val (jbB call_isi Z.isi boot_isinstance (ja_cons (je_conv (jv 0 (R := IsPn C p)) tup_at) (ja_cons (jty Z.tuple boot_tuple) ja_nil)) isi_at1)))) fun _ => jw_or (b1 := false) (b2 := false) (jt_eq (jt_cmp (pt_cmpR op_ne (jbB call_len Z.len boot_len (ja_cons (jv 0 (R := IsPn C p)) ja_nil) rc_lenTp) jI (nomark _)) rop_neI) rfl) fun _ => jw_or1 (jt_not (b1 := true) (jt_val (pt_val (je_eq (jbB (cr_all rfl) Z.all boot_all (ja_cons (je_m (jlc (Ry := IsB) (fun _ => true) [("number", 1)] nd (ji_tup (Rx := IsNm C) (xs := [p.1, p.2]) (pi_tup (je_conv (jv 0) pn_ts))) (fun s H C' cl fp x => jg1 1 nd) (fun s H C' cl fp x hx => jc k_is_number (hr.mono (by decide)) x (ja_cons (jv 1) ja_nil) trivial) (line_of (m := 2) (by show 2 ≤ 2; decide)))) ja_nil) rc_all) rfl)))))) (fun h => nomatch h) (fun _ => js_nil rfl)) ?_
  refine js_one (js_ret (je_eq (je_and (b1 := true) (je_eq (je_op (pe_cmpR op_gt (jprop psign (hr.mono (by decide)) p.1 (jc k_ratio_of hr p.1 (ja_cons (je_op (pe_ix ix_tup (jv 0 (R := IsPn C p)) jI (fun _ _ => rfl)) (rop_ixT (j := 0) rfl)) ja_nil) trivial) rfl trivial rfl) jI (nomark _)) rop_gt) ?_) fun _ => pe_one (je_eq (je_op (pe_cmpR op_ge (jprop psign (hr.mono (by decide)) p.2 (jc k_ratio_of hr p.2 (ja_cons (je_op (pe_ix ix_tup (jv 0 (R := IsPn C p)) jI (fun _ _ => rfl)) (rop_ixT (j := 1) rfl)) ja_nil) trivial) rfl trivial rfl) jI (nomark _)) rop_ge) (R' := IsB true) ?_)) rfl))
  · rw [q_sgn_pos, decide_eq_true hp.1]
  · rw [q_sgn_nn, decide_eq_true hp.2]
end
end Gw
set_option maxHeartbeats 4000000
namespace Gw
open PySem PySem.Spec PyProof.Rows L2
section
variable {P : Program} {w : World} {K : PySem.W.Frag} {mg : Str → Option Value} {base : Heap} {C : Addr}
/-- a guess -/
structure GuessP (ps : List (Rat × Rat)) : Prop where
  lo : 1 ≤ ps.length
  hi : ps.length ≤ 4
  part : ∀ p ∈ ps, 0 < p.1 ∧ 0 ≤ p.2
  inc : ∀ q ∈ ps.zip (ps.drop 1), q.1.2 < q.2.2
  one : sumR (ps.map fun p => p.1) = 1
  mean : sumR (ps.map fun p => p.1 * p.2) = 1
  sz : ∀ p ∈ ps, Sz 100 p.1 ∧ Sz 100 p.2
abbrev IsSG (C : Addr) : List (Rat × Rat) → V → Hp → Prop := IsSq (IsPn C)
abbrev IsGQ (C : Addr) : List (Rat × Rat) → V → Hp → Prop := IsL (IsPq C)
abbrev sp_guess_in (C : Addr) : Sp := Pr (ι := List (Rat × Rat)) (fun w => [IsSG C w]) GuessP (fun w => IsGQ C w)
abbrev Kn_guess_in (P : Program) (w : World) (K : PySem.W.Frag) (mg : Str → Option Value) (base : Heap) (C : Addr) : Prop := Kn P w K mg base "guess_in" 8 ["value"] (sp_guess_in C)
theorem ok_guess_in (Z : Glo K mg C) (k_is_list : Kn_is_list P w K mg base C) (k_is_part : Kn_is_part P w K mg base C) (k_ratio_of : Kn_ratio_of P w K mg base C) (mbelow : MethK P w K mg base C "is_below" 6 ["self", "other"] (sp_Ris_below C)) (omul : Opr P w K mg base C .Mult 6 (fun w => Fits w.1 w.2) (· * ·)) (k_total_of : Kn_total_of P w K mg base C) (mk : Mkr P w K mg base C 2) (oeq : EqK P w K mg base C 1) {f : Addr} {fd : FuncData} (Fd : FnP K "guess_in" st_guess_in f fd) : FnOk P w K mg base CX0 8 f fd ["value"] (sp_guess_in C) := by
  refine fn_pr Fd sc_guess_in (fun u => by first | rfl | (cases u <;> rfl)) (fun _ => False) (fun _ _ h => h.elim) (fun X u E hX hp hE => ?_)
  obtain ⟨cdv, A, outer, s, H, E', rfl, hr⟩ := hX
  refine PSs.nox ?_
  have nd := (sc_guess_in).nd
  replace hr : Room 7 (cxOf CX0 P w K mg base N_guess_in "guess_in" (defScope st_guess_in) f cdv A outer s H E').nox.A := hr
  rename List (Rat × Rat) => ps
  have hl : ps.length ≤ 1000 := by have := hp.hi; omega
  obtain ⟨t2, g2⟩ := Z.parts
  refine js_seq (G1 := G0 [IsSG C ps] 7) (js_if (b1 := false) (jt_eq (PW.pt (jw_or (b1 := false) (jt_not (b1 := true) (jt_val (pt_val (jc k_is_list (hr.mono (by decide)) () (ja_cons (je_conv (jv 0 (R := IsSG C ps)) sq_lt) ja_nil) trivial)))) fun _ => jw_or (b1 := false) (b2 := false) (jt_eq (jt_not (jt_chain (pt_chain op_le op_le jI (jbB call_len Z.len boot_len (ja_cons (jv 0 (R := IsSG C ps)) ja_nil) rc_lenS) (jgI g2)) rop_le rop_le)) ?_) fun _ => jw_or1 (jt_not (b1 := true) (jt_val (pt_val (je_eq (jbB (cr_all rfl) Z.all boot_all (ja_cons (je_m (jlc (Ry := IsB) (fun _ => true) [("part", 5)] nd (ji_seq (i := 0) (Rx := IsPn C) (xs := ps) (pi_list (pv 0)) (pi_tup (pv 0)) rfl) (fun s H C' cl fp x => jg1 5 nd) (fun s H C' cl fp x hx => jc k_is_part (hr.mono (by decide)) x (ja_cons (jv 5) ja_nil) (hp.part x hx)) (line_of hl))) ja_nil) rc_all) (by rw [all_true]))))))) rfl) (fun h => nomatch h) (fun _ => js_nil rfl)) ?_
  · have h1 := hp.lo
    have h2 := hp.hi
    simp only [Bool.not_eq_false', Bool.and_eq_true, decide_eq_true_eq]
    omega
  refine js_seq (jslc (i := 1) (Ry := IsPq C) (fun p => p) [("chance", 2), ("worth", 6)] nd (ji_seq (i := 0) (Rx := IsPn C) (xs := ps) (pi_list (pv 0)) (pi_tup (pv 0)) rfl) (fun s H C' cl fp x => jg2 2 6 nd) (fun s H C' cl fp x hx => je_tup (pe_tup (ja_cons (jc k_ratio_of (hr.mono (by decide)) x.1 (ja_cons (jv 2) ja_nil) trivial) (ja_cons (jc k_ratio_of (hr.mono (by decide)) x.2 (ja_cons (jv 6) ja_nil) trivial) ja_nil)))) (line_of hl)) ?_
  rw [List.map_id']
  refine js_frz (i := 1) rfl ?_
  refine js_seq (G1 := [.fz (IsSG C ps), .fz (IsGQ C ps), .un, .un, .un, .un, .un]) (js_if (b1 := false) (jt_not (b1 := true) (jt_val (pt_val (je_eq (jbB (cr_all rfl) Z.all boot_all (ja_cons (je_m (jlc (Ry := IsB) (fun _ => true) [("near", 4), ("far", 3)] nd (ji_zip (Rx := IsPq C) (Ry := IsPq C) (xs := ps) (ys := ps.drop 1) (pi_zip rfl Z.zip (ja_cons (jv 1) (ja_cons (je_m (jm_slice (pe_slice sl_list (jv 1 (R := IsGQ C ps)) (jo_some (jI (i := ((1 : Nat) : Int)))) jo_none) (cut_from _ 1 ps rfl).symm)) ja_nil)))) (fun s H C' cl fp x => jg2 4 3 nd) (fun s H C' cl fp x hx => ?_) (line_of (m := 1000) (by rw [List.length_zip]; omega)))) ja_nil) rc_all) (by rw [all_true]))))) (fun h => nomatch h) (fun _ => js_nil rfl)) ?_
  · obtain ⟨m1, m2⟩ := List.of_mem_zip hx
    have m3 := List.mem_of_mem_drop m2
    refine jmeth mbelow (hr.mono (by decide)) (x.1.2, x.2.2) (je_op (pe_ix ix_tup (jv 4 (R := IsPq C x.1)) jI (fun _ _ => rfl)) (rop_ixT (j := 1) rfl)) (ja_cons (je_conv (je_op (pe_ix ix_tup (jv 3 (R := IsPq C x.2)) jI (fun _ _ => rfl)) (rop_ixT (j := 1) rfl)) isQ_nm) ja_nil) rfl ((hp.sz _ m1).2.fits (hp.sz _ m3).2 (by decide)) ?_
    show IsB (decide (x.1.2 < x.2.2)) = IsB true
    rw [decide_eq_true (hp.inc x hx)]
  have f1 : FitsL 0 (ps.map fun p => p.1) := FitsL.zero (n := 100) (fun x hx => by
    obtain ⟨p, hp', rfl⟩ := List.mem_map.mp hx
    exact (hp.sz p hp').1) (by rw [List.length_map]; have := hp.hi; omega)
  have f2 : FitsL 0 (ps.map fun p => p.1 * p.2) := FitsL.zero (n := 200) (fun x hx => by
    obtain ⟨p, hp', rfl⟩ := List.mem_map.mp hx
    exact (hp.sz p hp').1.mul (hp.sz p hp').2) (by rw [List.length_map]; have := hp.hi; omega)
  refine js_seq (G1 := [.fz (IsSG C ps), .fz (IsGQ C ps), .un, .un, .un, .un, .un]) (js_if (b1 := false) (jt_eq (jneQ oeq (hr.mono (by decide)) (jc k_total_of (hr.mono (by decide)) (ps.map fun p => p.1) (ja_cons (je_m (jlc (Ry := IsQ C) (fun p : Rat × Rat => p.1) [("chance", 2), ("worth", 6)] nd (ji_list (Rx := IsPq C) (xs := ps) (pi_list (jv 1))) (fun s H C' cl fp x => jg2 2 6 nd) (fun s H C' cl fp x hx => jv 2) (line_of hl))) ja_nil) f1) (jmk1 mk (hr.mono (by decide)) (ja_cons jI ja_nil))) ?_) (fun h => nomatch h) (fun _ => js_nil rfl)) ?_
  · rw [hp.one]
    rfl
  refine js_one (js_ret (je_if (b1 := true) (jt_eq (jteqQ oeq (hr.mono (by decide)) (jc k_total_of (hr.mono (by decide)) (ps.map fun p => p.1 * p.2) (ja_cons (je_m (jlc (Ry := IsQ C) (fun p : Rat × Rat => p.1 * p.2) [("chance", 2), ("worth", 6)] nd (ji_list (Rx := IsPq C) (xs := ps) (pi_list (jv 1))) (fun s H C' cl fp x => jg2 2 6 nd) (fun s H C' cl fp x hx => joQ omul (hr.mono (by decide)) (jv 2) (jv 6) ((hp.sz x hx).1.fits (hp.sz x hx).2 (by decide))) (line_of hl))) ja_nil) f2) (jmk1 mk (hr.mono (by decide)) (ja_cons jI ja_nil))) ?_) (fun _ => jv 1) (fun h => nomatch h)))
  rw [hp.mean]
  rfl
/-! ### guesses -/
abbrev sp_want_guesses (C : Addr) : Sp := Pr (ι := List (List (Rat × Rat)) × Nat) (fun w => [IsU w.2, IsSq (IsSG C) w.1]) (fun w => w.1.length = w.2 ∧ w.2 ≤ 1000 ∧ ∀ g ∈ w.1, GuessP g) (fun w => IsL (IsGQ C) w.1)
abbrev Kn_want_guesses (P : Program) (w : World) (K : PySem.W.Frag) (mg : Str → Option Value) (base : Heap) (C : Addr) : Prop := Kn P w K mg base "want_guesses" 9 ["places", "value"] (sp_want_guesses C)
theorem ok_want_guesses (Z : Glo K mg C) (k_is_list : Kn_is_list P w K mg base C) (k_guess_in : Kn_guess_in P w K mg base C) {f : Addr} {fd : FuncData} (Fd : FnP K "want_guesses" st_want_guesses f fd) : FnOk P w K mg base CX0 9 f fd ["places", "value"] (sp_want_guesses C) := by
  refine fn_pr Fd sc_want_guesses (fun u => by first | rfl | (cases u <;> rfl)) (fun _ => False) (fun _ _ h => h.elim) (fun X u E hX hp hE => ?_)
  obtain ⟨cdv, A, outer, s, H, E', rfl, hr⟩ := hX
  refine PSs.nox ?_
  have nd := (sc_want_guesses).nd
  replace hr : Room 8 (cxOf CX0 P w K mg base N_want_guesses "want_guesses" (defScope st_want_guesses) f cdv A outer s H E').nox.A := hr
  obtain ⟨gs, n⟩ := u
  have h1 : gs.length = n := hp.1
  have h2 : n ≤ 1000 := hp.2.1
  have h3 : ∀ g ∈ gs, GuessP g := hp.2.2
  refine js_seq (G1 := G0 [IsU n, IsSq (IsSG C) gs] 4) (js_if (b1 := false) (jt_eq (PW.pt (jw_or (b1 := false) (b2 := false) (jt_not (b1 := true) (jt_val (pt_val (jc k_is_list (hr.mono (by decide)) () (ja_cons (je_conv (jv 1 (R := IsSq (IsSG C) gs)) sq_lt) ja_nil) trivial)))) fun _ => jw_or1 (jt_eq (jt_cmp (pt_cmpR op_ne (jbB call_len Z.len boot_len (ja_cons (jv 1 (R := IsSq (IsSG C) gs)) ja_nil) rc_lenS) (jv 0 (R := IsU n)) (nomark _)) rop_neI) (by rw [h1]; simp)))) rfl) (fun h => nomatch h) (fun _ => js_nil rfl)) ?_
  refine js_seq (jslc (i := 2) (Ry := IsGQ C) (fun p => p) [("guess", 3)] nd (ji_seq (i := 1) (Rx := IsSG C) (xs := gs) (pi_list (pv 1)) (pi_tup (pv 1)) rfl) (fun s H C' cl fp x => jg1 3 nd) (fun s H C' cl fp x hx => jc k_guess_in (hr.mono (by decide)) x (ja_cons (jv 3) ja_nil) (h3 x hx)) (line_of (m := 1000) (by omega))) ?_
  rw [List.map_id']
  refine js_frz (i := 2) rfl ?_
  refine js_seq (G1 := [.fz (IsU n), .fz (IsSq (IsSG C) gs), .fz (IsL (IsGQ C) gs), .un]) (js_if (b1 := false) (jt_val (pt_val (je_eq (jbB (cr_any rfl) Z.any boot_any (ja_cons (je_m (jlc (Ry := IsB) (fun _ => false) [("guess", 3)] nd (ji_list (Rx := IsGQ C) (xs := gs) (pi_list (jv 2))) (fun s H C' cl fp x => jg1 3 nd) (fun s H C' cl fp x hx => je_op (pe_cmpR op_isN (jv 3 (R := IsGQ C x)) jNon (nomark _)) (rop_isN (fun v F h => by
      obtain ⟨a, vs, rfl, _⟩ := h
      rfl))) (line_of (m := 1000) (by omega)))) ja_nil) rc_any) ?_))) (fun h => nomatch h) (fun _ => js_nil rfl)) ?_
  · show IsB _ = IsB false
    congr 1
    simp
  exact js_one (js_ret (jv 2))
/-- a standing: its place, chance, worth -/
abbrev Sd : Type := Nat × Rat × Rat
abbrev IsSd (C : Addr) (s : Sd) : V → Hp → Prop := IsTp [IsU s.1, IsQ C s.2.1, IsQ C s.2.2]
def standOf (q : Nat × List (Rat × Rat)) : List Sd := (q.2.filter fun p => decide (0 < p.2)).map fun p => (q.1, p.1, p.2)
def standR (gs : List (List (Rat × Rat))) : List Sd := ((enumN gs).map standOf).flatten
abbrev sp_standings_of (C : Addr) : Sp := Pr (ι := List (List (Rat × Rat))) (fun w => [IsL (IsGQ C) w]) (fun w => w.length ≤ 10 ∧ ∀ g ∈ w, g.length ≤ 4) (fun w => IsL (IsSd C) (standR w))
theorem standOf_len (q : Nat × List (Rat × Rat)) : (standOf q).length ≤ q.2.length := by
  unfold standOf
  rw [List.length_map]
  exact List.length_filter_le _ _
theorem standR_take {gs : List (List (Rat × Rat))} {i : Nat} {q : Nat × List (Rat × Rat)} (h : (enumN gs)[i]? = some q) : ((((enumN gs).take (i + 1)).map standOf).flatten) = (((enumN gs).take i).map standOf).flatten ++ standOf q := by
  rw [map_take h, List.flatten_append]
  simp
theorem stand_len {qs : List (Nat × List (Rat × Rat))} (h : ∀ q ∈ qs, q.2.length ≤ 4) : ((qs.map standOf).flatten).length ≤ 4 * qs.length := by
  induction qs with
  | nil => simp
  | cons q qs ih =>
    rw [List.map_cons, List.flatten_cons, List.length_append, List.length_cons]
    have h1 := ih (fun q hq => h q (by simp [hq]))
    have h2 := standOf_len q
    have h3 := h q (by simp)
    omega
abbrev Kn_standings_of (P : Program) (w : World) (K : PySem.W.Frag) (mg : Str → Option Value) (base : Heap) (C : Addr) : Prop := Kn P w K mg base "standings_of" 3 ["guesses"] (sp_standings_of C)
theorem ok_standings_of (Z : Glo K mg C) (psign : PropK P w K mg base C "sign" 1 (sp_Rsign C)) {f : Addr} {fd : FuncData} (Fd : FnP K "standings_of" st_standings_of f fd) : FnOk P w K mg base CX0 3 f fd ["guesses"] (sp_standings_of C) := by
  refine fn_pr Fd sc_standings_of (fun u => by first | rfl | (cases u <;> rfl)) (fun _ => False) (fun _ _ h => h.elim) (fun X u E hX hp hE => ?_)
  obtain ⟨cdv, A, outer, s, H, E', rfl, hr⟩ := hX
  refine PSs.nox ?_
  have nd := (sc_standings_of).nd
  replace hr : Room 2 (cxOf CX0 P w K mg base N_standings_of "standings_of" (defScope st_standings_of) f cdv A outer s H E').nox.A := hr
  rename List (List (Rat × Rat)) => gs
  obtain ⟨h1, h2⟩ := hp
  have he : ∀ q ∈ enumN gs, q.2.length ≤ 4 := fun q hq => h2 _ (List.mem_of_getElem? (mem_enumN hq).2)
  refine js_seq (js_setM (Rm := LsOf (IsSd C) []) (ps_set (i := 1) nd rfl (.inl rfl) (jm_ls [] (jm_lst (pe_lst ja_nil))))) ?_
  refine js_cons (N1 := fun G => ∃ s t, G = [.fz (IsL (IsGQ C) gs), .mt (LsOf (IsSd C) (standR gs)), s, t, .un, .un]) (js_for PassesOwn.never rfl (ji_enumN (Rx := IsGQ C) (xs := gs) (pi_enum rfl Z.enum (ja_cons (jv 0) ja_nil))) (fun x => jg2 2 3 nd) (fun i G => ∃ s t, G = [.fz (IsL (IsGQ C) gs), .mt (LsOf (IsSd C) ((((enumN gs).take i).map standOf).flatten)), s, t, .un, .un]) ⟨_, _, rfl⟩ ?_ (fun G1 h => by rwa [List.take_length] at h)) ?_
  · rintro i ⟨n, g⟩ G1 hi ⟨s, t, rfl⟩
    have hm := List.mem_of_getElem? hi
    have hg : g.length ≤ 4 := he _ hm
    refine js_one (js_N (js_extend (Rx := IsSd C) (ys := standOf (n, g)) (Rm' := LsOf (IsSd C) ((((enumN gs).take (i + 1)).map standOf).flatten)) (ps_expr (pe_bm PySem.F.plainAttrs_list PySem.F.slot_list_extend PySem.F.type_list_extend mt_extend (pv 1) (pa_cons (je_m (jm_lc (X := _) (own := [("chance", 4), ("worth", 5)]) (fun p : Rat × Rat => decide (0 < p.2)) (fun p : Rat × Rat => (n, p.1, p.2)) rfl nd (ji_list (Rx := IsPq C) (xs := g) (pi_list (jv 3))) (blkOk_by (by kernel_rfl)) (by decide) (fun s H C' cl fp x => jg2 4 5 nd) (fun s H C' cl fp x hx => jts_one (jt_eq (jt_cmp (pt_cmpR op_gt (jprop psign hr x.2 (jv 5 (R := IsQ C x.2)) rfl trivial rfl) jI (nomark _)) rop_gt) (by rw [q_sgn_pos]))) (fun s H C' cl fp x hx _ => je_tup (pe_tup (ja_cons (jv 2 (R := IsU n)) (ja_cons (jv 4) (ja_cons (jv 5) ja_nil))))) (line_of (m := 1000) (by show g.length ≤ 1000; omega)))) pa_nil))) rfl (fun vs ws F a b => ?_) (fun vs F a => ?_)) ?_)
    · rw [standR_take hi]
      exact LsOf.up (paired_app a.here b)
    · rw [← a.len]
      have h3 := stand_len (qs := (enumN gs).take i) (fun q hq => he q (List.mem_of_mem_take hq))
      have h4 := standOf_len (n, g)
      have h5 : ((enumN gs).take i).length ≤ 10 := by rw [List.length_take, enumN_len]; omega
      have h6 : (100000 : Nat) ≤ sizeLine := by decide
      have h7 : (standOf (n, g)).length ≤ 4 := Nat.le_trans h4 hg
      omega
    · rintro G' rfl
      exact ⟨_, _, rfl⟩
  · rintro _ ⟨s, t, rfl⟩
    exact js_one (js_retV (pv 1) rfl)
end
end Gw
/-! Plain: the flows of standings, what is ahead, the table. -/
namespace Gw
abbrev St3 : Type := Nat × Rat × Rat
def hereR (rows : List (List Rat)) (ws : List Rat) (a b : St3) : Rat := ws[a.1]! * a.2.2 * (rows[a.1]!)[b.1]!
def flowR (rows : List (List Rat)) (ws : List Rat) (a b : St3) : Rat := a.2.1 * b.2.1 * (if hereR rows ws a b < hereR rows ws b a then hereR rows ws a b else hereR rows ws b a)
/-- rows, weights of n places, with sizes -/
structure RowsOk (n : Nat) (rows : List (List Rat)) (ws : List Rat) : Prop where
  rl : rows.length = n
  rr : ∀ r ∈ rows, r.length = n
  wl : ws.length = n
  rs : ∀ r ∈ rows, ∀ x ∈ r, Sz 60 x
  wz : ∀ x ∈ ws, Sz 60 x
  hn : n ≤ 10
structure SdOk (n : Nat) (s : St3) : Prop where
  lt : s.1 < n
  c : Sz 100 s.2.1
  w : Sz 100 s.2.2
theorem get_mem {α : Type} [Inhabited α] {xs : List α} {i : Nat} (h : i < xs.length) : xs[i]! ∈ xs := by
  rw [getElem!_pos xs i h]
  exact List.getElem_mem h
section
variable {n : Nat} {rows : List (List Rat)} {ws : List Rat} {a b : St3}
theorem RowsOk.row (h : RowsOk n rows ws) {i : Nat} (hi : i < n) : (rows[i]!).length = n := h.rr _ (get_mem (by rw [h.rl]; exact hi))
theorem RowsOk.szr (h : RowsOk n rows ws) {i j : Nat} (hi : i < n) (hj : j < n) : Sz 60 (rows[i]!)[j]! := h.rs _ (get_mem (by rw [h.rl]; exact hi)) _ (get_mem (by rw [h.row hi]; exact hj))
theorem RowsOk.szw (h : RowsOk n rows ws) {i : Nat} (hi : i < n) : Sz 60 ws[i]! := h.wz _ (get_mem (by rw [h.wl]; exact hi))
theorem sz_here (h : RowsOk n rows ws) (ha : SdOk n a) (hb : SdOk n b) : Sz 220 (hereR rows ws a b) := ((h.szw ha.lt).mul ha.w).mul (h.szr ha.lt hb.lt)
theorem sz_flow (h : RowsOk n rows ws) (ha : SdOk n a) (hb : SdOk n b) : Sz 420 (flowR rows ws a b) := by
  have h2 : Sz 220 (if hereR rows ws a b < hereR rows ws b a then hereR rows ws a b else hereR rows ws b a) := by
    split
    · exact sz_here h ha hb
    · exact sz_here h hb ha
  exact (ha.c.mul hb.c).mul h2
end
def flowsR (rows : List (List Rat)) (ws : List Rat) (ss : List St3) : List (List Rat) := (ss.zipIdx).map fun p => (ss.zipIdx).map fun q => if p.2 = q.2 then 0 else flowR rows ws p.1 q.1
/-- places that hang together by positive flows -/
def Conn (flows : List (List Rat)) : Prop := ∀ S : Nat → Prop, S 0 → (∀ i j, S i → i < flows.length → j < flows.length → 0 < (flows[i]!)[j]! → S j) → ∀ i, i < flows.length → S i
/-- the search's state -/
structure JInv (flows : List (List Rat)) (met late : List Nat) : Prop where
  nd : met.Nodup
  lt : ∀ x ∈ met, x < flows.length
  sub : ∀ x ∈ late, x ∈ met
  z : 0 ∈ met
  ln : late.Nodup
  cl : ∀ x ∈ met, x ∉ late → ∀ y, y < flows.length → 0 < (flows[x]!)[y]! → y ∈ met
theorem nodup_le {n : Nat} {xs : List Nat} (h : xs.Nodup) (hl : ∀ x ∈ xs, x < n) : xs.length ≤ n := by
  have := List.Nodup.length_le_of_subset h (l₂ := List.range n) (fun x hx => List.mem_range.mpr (hl x hx))
  simpa using this
theorem JInv.late_le {flows : List (List Rat)} {met late : List Nat} (h : JInv flows met late) : late.length ≤ flows.length := nodup_le h.ln (fun x hx => h.lt x (h.sub x hx))
theorem JInv.full {flows : List (List Rat)} {met : List Nat} (h : JInv flows met []) (c : Conn flows) : met.length = flows.length := by
  have h1 := nodup_le h.nd h.lt
  have h2 := c (fun x => x ∈ met) h.z (fun i j hi hi2 hj hf => h.cl i hi (by simp) j hj hf)
  have h3 := List.Nodup.length_le_of_subset (List.nodup_range (n := flows.length)) (l₂ := met) (fun x hx => h2 x (List.mem_range.mp hx))
  rw [List.length_range] at h3
  omega
def moreR (flows : List (List Rat)) (at_ : Nat) (met : List Nat) : List Nat := ((flows[at_]!.zipIdx.map fun p => (p.2, p.1)).filter fun q => decide (0 < q.2) && !decide (q.1 ∈ met)).map fun q => q.1
theorem mem_moreR {flows : List (List Rat)} {at_ : Nat} {met : List Nat} {x : Nat} (hr : (flows[at_]!).length = flows.length) : x ∈ moreR flows at_ met ↔ x < flows.length ∧ 0 < (flows[at_]!)[x]! ∧ x ∉ met := by
  unfold moreR
  rw [List.mem_map]
  constructor
  · rintro ⟨q, hq, rfl⟩
    obtain ⟨h1, h2⟩ := List.mem_filter.mp hq
    obtain ⟨⟨y, i⟩, h3, rfl⟩ := List.mem_map.mp h1
    have h4 := List.mem_zipIdx' h3
    simp only [Bool.and_eq_true, decide_eq_true_eq, Bool.not_eq_true', decide_eq_false_iff_not] at h2
    refine ⟨by have := h4.1; omega, ?_, h2.2⟩
    rw [getElem!_pos _ i h4.1, ← h4.2]
    exact h2.1
  · rintro ⟨h1, h2, h3⟩
    have hl : x < (flows[at_]!).length := by omega
    refine ⟨(x, (flows[at_]!)[x]), List.mem_filter.mpr ⟨List.mem_map.mpr ⟨((flows[at_]!)[x], x), ?_, rfl⟩, ?_⟩, rfl⟩
    · rw [List.mem_zipIdx_iff_getElem?]
      exact List.getElem?_eq_getElem hl
    · rw [getElem!_pos _ x hl] at h2
      simp only [Bool.and_eq_true, decide_eq_true_eq, Bool.not_eq_true', decide_eq_false_iff_not]
      exact ⟨h2, h3⟩
theorem nodup_moreR {flows : List (List Rat)} {at_ : Nat} {met : List Nat} : (moreR flows at_ met).Nodup := by
  have h1 : (flows[at_]!.zipIdx.map fun p => (p.2, p.1)).map (fun q : Nat × Rat => q.1) = List.range (flows[at_]!).length := by
    rw [List.map_map]
    apply List.ext_getElem
    · simp
    · intro i h1 h2
      simp
  unfold moreR
  have h2 : List.Sublist (((flows[at_]!.zipIdx.map fun p => (p.2, p.1)).filter fun q => decide (0 < q.2) && !decide (q.1 ∈ met)).map fun q => q.1) ((flows[at_]!.zipIdx.map fun p => (p.2, p.1)).map (fun q : Nat × Rat => q.1)) := (List.filter_sublist).map _
  rw [h1] at h2
  exact List.nodup_range.sublist h2
theorem JInv.step {flows : List (List Rat)} {met late : List Nat} {at_ : Nat} (h : JInv flows met (late ++ [at_])) (hr : ∀ r ∈ flows, r.length = flows.length) : JInv flows (met ++ moreR flows at_ met) (late ++ moreR flows at_ met) := by
  have ha : at_ ∈ met := h.sub at_ (by simp)
  have hl := h.lt at_ ha
  have hrow : (flows[at_]!).length = flows.length := hr _ (get_mem hl)
  refine ⟨?_, fun x hx => ?_, fun x hx => ?_, List.mem_append_left _ h.z, ?_, fun x hx hn y hy hf => ?_⟩
  · rw [List.nodup_append]
    refine ⟨h.nd, nodup_moreR, fun a h1 b h2 e => ?_⟩
    subst e
    exact ((mem_moreR hrow).mp h2).2.2 h1
  · rcases List.mem_append.mp hx with q | q
    · exact h.lt x q
    · exact ((mem_moreR hrow).mp q).1
  · rcases List.mem_append.mp hx with q | q
    · exact List.mem_append_left _ (h.sub x (List.mem_append_left _ q))
    · exact List.mem_append_right _ q
  · have h1 := h.ln
    rw [List.nodup_append] at h1
    rw [List.nodup_append]
    refine ⟨h1.1, nodup_moreR, fun a h1 b h2 e => ?_⟩
    subst e
    exact ((mem_moreR hrow).mp h2).2.2 (h.sub a (List.mem_append_left _ h1))
  · rcases List.mem_append.mp hx with q | q
    · by_cases hx2 : x ∈ late ++ [at_]
      · rcases List.mem_append.mp hx2 with q2 | q2
        · exact absurd (List.mem_append_left _ q2) hn
        · have e : x = at_ := by simpa using q2
          subst e
          by_cases hm : y ∈ met
          · exact List.mem_append_left _ hm
          · exact List.mem_append_right _ ((mem_moreR hrow).mpr ⟨hy, hf, hm⟩)
      · exact List.mem_append_left _ (h.cl x q hx2 y hy hf)
    · exact absurd (List.mem_append_right _ q) hn
theorem JInv.start {flows : List (List Rat)} (h : 0 < flows.length) : JInv flows [0] [0] := ⟨by simp, fun x hx => by simp at hx; omega, fun x hx => hx, by simp, by simp, fun x hx hn => absurd hx hn⟩
/-! ### what is ahead, the table -/
def lapRow (flow : List Rat) (at_ : Nat) (goals : List (List Rat)) : List Rat := (flow.map fun one => 0 - one).set at_ (sumR flow) ++ goals.map fun g => g[at_]!
def lapRows (flows : List (List Rat)) (goals : List (List Rat)) : List (List Rat) := flows.zipIdx.map fun p => lapRow p.1 p.2 goals
def headQ (row : List Rat) : Nat := headOf (row.map fun q => q.num)
/-- the k-th list of what is ahead -/
def aheadOf (n : Nat) (rows : List (List Rat)) (k : Nat) : List Rat := rows.foldl (fun l row => l.set (headQ row) (row[n + k]!)) (List.replicate n 0)
def aheadsR (flows : List (List Rat)) (goals : List (List Rat)) : List (List Rat) := (List.range goals.length).map fun k => aheadOf flows.length (steps_ofR (lapRows flows goals)) k
def sharesR (ws : List Rat) : List Rat := ws.map fun w => w / sumR ws
def goalOf (ws : List Rat) (ss : List St3) (place : Nat) (share : Rat) : List Rat := ss.map fun one => ws[one.1]! * one.2.1 * one.2.2 * ((if one.1 = place then (1 : Rat) else 0) - share)
def goalsR (ws : List Rat) (ss : List St3) : List (List Rat) := (sharesR ws).zipIdx.map fun p => goalOf ws ss p.2 p.1
def bothR (ws : List Rat) (goal ahead : List Rat) : Rat := sumR ((goal.zip ahead).map fun q => q.1 * q.2) / sumR ws
def cellR (ws : List Rat) (goals aheads : List (List Rat)) (place spot : Nat) : Rat := bothR ws goals[place]! aheads[spot]! * 2 - (sharesR ws)[place]! * ((if place = spot then (1 : Rat) else 0) - (sharesR ws)[spot]!)
def tableR (ws : List Rat) (ss : List St3) (flows : List (List Rat)) : List (List Rat) := (List.range ws.length).map fun place => (List.range ws.length).map fun spot => cellR ws (goalsR ws ss) (aheadsR flows (goalsR ws ss)) place spot
end Gw
set_option maxHeartbeats 4000000
namespace Gw
open PySem PySem.Spec PyProof.Rows L2
/-- .. and all that is met is to be reached -/
structure JX (fl : List (List Rat)) (met late : List Nat) : Prop where
  j : JInv fl met late
  r : ∀ S : Nat → Prop, S 0 → (∀ i j, S i → i < fl.length → j < fl.length → 0 < (fl[i]!)[j]! → S j) → ∀ x ∈ met, S x
theorem JX.start {fl : List (List Rat)} (h : 0 < fl.length) : JX fl [0] [0] := ⟨JInv.start h, fun S h0 _ x hx => by simp at hx; rw [hx]; exact h0⟩
theorem JX.step {fl : List (List Rat)} {met late : List Nat} {at_ : Nat} (h : JX fl met (late ++ [at_])) (hr : ∀ r ∈ fl, r.length = fl.length) : JX fl (met ++ moreR fl at_ met) (late ++ moreR fl at_ met) := ⟨h.j.step hr, fun S h0 hc x hx => by
  have ha : at_ ∈ met := h.j.sub at_ (by simp)
  have hl := h.j.lt at_ ha
  rcases List.mem_append.mp hx with q | q
  · exact h.r S h0 hc x q
  · obtain ⟨q1, q2, _⟩ := (mem_moreR (hr _ (get_mem hl))).mp q
    exact hc at_ x (h.r S h0 hc at_ ha) hl q1 q2⟩
theorem JX.full {fl : List (List Rat)} {met : List Nat} (h : JX fl met []) : met.length = fl.length ↔ Conn fl := by
  constructor
  · intro hl S h0 hs i hi
    refine h.r S h0 hs i ?_
    by_cases hin : i ∈ met
    · exact hin
    · exfalso
      have := nodup_le (n := fl.length) (xs := i :: met) (List.nodup_cons.mpr ⟨hin, h.j.nd⟩) (fun x hx => by
        rcases List.mem_cons.mp hx with e | e
        · rw [e]; exact hi
        · exact h.j.lt x e)
      rw [List.length_cons] at this
      omega
  · exact h.j.full
section
variable {P : Program} {w : World} {K : PySem.W.Frag} {mg : Str → Option Value} {base : Heap} {C : Addr}
abbrev sp_want_at_most (_ : Addr) : Sp := Pr (ι := Str × Int × Int) (fun w => [IsS w.1, IsI w.2.1, IsI w.2.2]) (fun w => w.2.2 ≤ w.2.1) (fun w => IsN)
abbrev Kn_want_at_most (P : Program) (w : World) (K : PySem.W.Frag) (mg : Str → Option Value) (base : Heap) (C : Addr) : Prop := Kn P w K mg base "want_at_most" 1 ["what", "limit", "number"] (sp_want_at_most C)
theorem ok_want_at_most {f : Addr} {fd : FuncData} (Fd : FnP K "want_at_most" st_want_at_most f fd) : FnOk P w K mg base CX0 1 f fd ["what", "limit", "number"] (sp_want_at_most C) := by
  refine fn_pr Fd sc_want_at_most (fun u => rfl) (fun G => ∃ u : Str × Int × Int, G = G0 [IsS u.1, IsI u.2.1, IsI u.2.2] 3) (fun G u _ F => rfl) (fun X u E hX hp hE => ?_)
  obtain ⟨cdv, A, outer, s, H, E', rfl, hr⟩ := hX
  refine PSs.nox ?_
  obtain ⟨s1, i, j⟩ := u
  have hp : j ≤ i := hp
  exact js_one (js_if (b1 := false) (jt_eq (jt_cmp (pt_cmpR op_gt (jv 2 (R := IsI j)) (jv 1 (R := IsI i)) (nomark _)) rop_gt) (decide_eq_false (by omega))) (fun h => nomatch h) (fun _ => js_nil ⟨(s1, i, j), rfl⟩))
abbrev sp_flow_between (C : Addr) : Sp := Pr (ι := List (List Rat) × List Rat × Sd × Sd) (fun w => [IsQM C w.1, IsL (IsQ C) w.2.1, IsSd C w.2.2.1, IsSd C w.2.2.2]) (fun w => ∃ n, RowsOk n w.1 w.2.1 ∧ SdOk n w.2.2.1 ∧ SdOk n w.2.2.2) (fun w => IsQ C (flowR w.1 w.2.1 w.2.2.1 w.2.2.2))
abbrev Kn_flow_between (P : Program) (w : World) (K : PySem.W.Frag) (mg : Str → Option Value) (base : Heap) (C : Addr) : Prop := Kn P w K mg base "flow_between" 7 ["rows", "weights", "near", "far"] (sp_flow_between C)
theorem ok_flow_between (Z : Glo K mg C) (omul : Opr P w K mg base C .Mult 6 (fun w => Fits w.1 w.2) (· * ·)) (mbelow : MethK P w K mg base C "is_below" 6 ["self", "other"] (sp_Ris_below C)) {f : Addr} {fd : FuncData} (Fd : FnP K "flow_between" st_flow_between f fd) : FnOk P w K mg base CX0 7 f fd ["rows", "weights", "near", "far"] (sp_flow_between C) := by
  refine fn_pr Fd sc_flow_between (fun u => by first | rfl | (cases u <;> rfl)) (fun _ => False) (fun _ _ h => h.elim) (fun X u E hX hp hE => ?_)
  obtain ⟨cdv, A, outer, s, H, E', rfl, hr⟩ := hX
  refine PSs.nox ?_
  have nd := (sc_flow_between).nd
  replace hr : Room 6 (cxOf CX0 P w K mg base N_flow_between "flow_between" (defScope st_flow_between) f cdv A outer s H E').nox.A := hr
  obtain ⟨rows, ws, a, b⟩ := u
  obtain ⟨n, hR, ha, hb⟩ := hp
  have hR : RowsOk n rows ws := hR
  have ha : SdOk n a := ha
  have hb : SdOk n b := hb
  have la := ha.lt
  have lb := hb.lt
  have lw := hR.wl
  have lr := hR.rl
  refine js_seq (js_set (R := IsQ C (hereR rows ws a b)) (ps_set (i := 4) nd rfl (.inl rfl) (joQ omul hr (joQ omul hr (je_op (pe_ix ix_list (jv 1 (R := IsL (IsQ C) ws)) (je_op (pe_ix ix_tup (jv 2 (R := IsSd C a)) jI (fun _ _ => rfl)) (rop_ixT (j := 0) rfl)) (fun _ _ => rfl)) (rop_ixB (by omega))) (je_op (pe_ix ix_tup (jv 2 (R := IsSd C a)) jI (fun _ _ => rfl)) (rop_ixT (j := 2) rfl)) ((hR.szw la).fits ha.w (by decide))) (je_op (pe_ix ix_list (je_op (pe_ix ix_list (jv 0 (R := IsQM C rows)) (je_op (pe_ix ix_tup (jv 2 (R := IsSd C a)) jI (fun _ _ => rfl)) (rop_ixT (j := 0) rfl)) (fun _ _ => rfl)) (rop_ixB (by omega))) (je_op (pe_ix ix_tup (jv 3 (R := IsSd C b)) jI (fun _ _ => rfl)) (rop_ixT (j := 0) rfl)) (fun _ _ => rfl)) (rop_ixB (by rw [hR.row la]; exact lb))) (((hR.szw la).mul ha.w).fits (hR.szr la lb) (by decide))))) ?_
  refine js_seq (js_set (R := IsQ C (hereR rows ws b a)) (ps_set (i := 5) nd rfl (.inl rfl) (joQ omul hr (joQ omul hr (je_op (pe_ix ix_list (jv 1 (R := IsL (IsQ C) ws)) (je_op (pe_ix ix_tup (jv 3 (R := IsSd C b)) jI (fun _ _ => rfl)) (rop_ixT (j := 0) rfl)) (fun _ _ => rfl)) (rop_ixB (by omega))) (je_op (pe_ix ix_tup (jv 3 (R := IsSd C b)) jI (fun _ _ => rfl)) (rop_ixT (j := 2) rfl)) ((hR.szw lb).fits hb.w (by decide))) (je_op (pe_ix ix_list (je_op (pe_ix ix_list (jv 0 (R := IsQM C rows)) (je_op (pe_ix ix_tup (jv 3 (R := IsSd C b)) jI (fun _ _ => rfl)) (rop_ixT (j := 0) rfl)) (fun _ _ => rfl)) (rop_ixB (by omega))) (je_op (pe_ix ix_tup (jv 2 (R := IsSd C a)) jI (fun _ _ => rfl)) (rop_ixT (j := 0) rfl)) (fun _ _ => rfl)) (rop_ixB (by rw [hR.row lb]; exact la))) (((hR.szw lb).mul hb.w).fits (hR.szr lb la) (by decide))))) ?_
  have s1 := sz_here hR ha hb
  have s2 := sz_here hR hb ha
  have s3 : Sz 220 (if hereR rows ws a b < hereR rows ws b a then hereR rows ws a b else hereR rows ws b a) := by
    split
    · exact s1
    · exact s2
  refine js_one (js_ret (joQ omul hr (joQ omul hr (je_op (pe_ix ix_tup (jv 2 (R := IsSd C a)) jI (fun _ _ => rfl)) (rop_ixT (j := 1) rfl)) (je_op (pe_ix ix_tup (jv 3 (R := IsSd C b)) jI (fun _ _ => rfl)) (rop_ixT (j := 1) rfl)) (ha.c.fits hb.c (by decide))) (je_if (R := IsQ C (if hereR rows ws a b < hereR rows ws b a then hereR rows ws a b else hereR rows ws b a)) (b1 := decide (hereR rows ws a b < hereR rows ws b a)) (jt_val (pt_val (jmeth mbelow hr (hereR rows ws a b, hereR rows ws b a) (jv 4) (ja_cons (je_conv (jv 5) isQ_nm) ja_nil) rfl (s1.fits s2 (by decide))))) (fun h => je_eq (jv 4) (by rw [if_pos (of_decide_eq_true h)])) (fun h => je_eq (jv 5) (by rw [if_neg (of_decide_eq_false h)]))) ((ha.c.mul hb.c).fits s3 (by decide))))
theorem enumN_eq {α : Type} (xs : List α) : enumN xs = xs.zipIdx.map fun p => (p.2, p.1) := rfl
theorem flowsR_enum (rows : List (List Rat)) (ws : List Rat) (ss : List Sd) : flowsR rows ws ss = (enumN ss).map fun p => (enumN ss).map fun q => if p.1 = q.1 then 0 else flowR rows ws p.2 q.2 := by
  unfold flowsR enumN
  rw [List.map_map]
  refine List.map_congr_left fun p _ => ?_
  simp only [Function.comp, List.map_map]
  rfl
abbrev sp_flows_of_standings (C : Addr) : Sp := Pr (ι := List (List Rat) × List Rat × List Sd) (fun w => [IsQM C w.1, IsL (IsQ C) w.2.1, IsL (IsSd C) w.2.2]) (fun w => ∃ n, RowsOk n w.1 w.2.1 ∧ w.2.2.length ≤ 100 ∧ ∀ s ∈ w.2.2, SdOk n s) (fun w => IsQM C (flowsR w.1 w.2.1 w.2.2))
abbrev Kn_flows_of_standings (P : Program) (w : World) (K : PySem.W.Frag) (mg : Str → Option Value) (base : Heap) (C : Addr) : Prop := Kn P w K mg base "flows_of_standings" 8 ["rows", "weights", "standings"] (sp_flows_of_standings C)
theorem ok_flows_of_standings (Z : Glo K mg C) (mk : Mkr P w K mg base C 2) (k_flow_between : Kn_flow_between P w K mg base C) {f : Addr} {fd : FuncData} (Fd : FnP K "flows_of_standings" st_flows_of_standings f fd) : FnOk P w K mg base CX0 8 f fd ["rows", "weights", "standings"] (sp_flows_of_standings C) := by
  refine fn_pr Fd sc_flows_of_standings (fun u => by first | rfl | (cases u <;> rfl)) (fun _ => False) (fun _ _ h => h.elim) (fun X u E hX hp hE => ?_)
  obtain ⟨cdv, A, outer, s, H, E', rfl, hr⟩ := hX
  refine PSs.nox ?_
  have nd := (sc_flows_of_standings).nd
  replace hr : Room 7 (cxOf CX0 P w K mg base N_flows_of_standings "flows_of_standings" (defScope st_flows_of_standings) f cdv A outer s H E').nox.A := hr
  obtain ⟨rows, ws, ss⟩ := u
  obtain ⟨n, hR, hz, hs⟩ := hp
  have hR : RowsOk n rows ws := hR
  have hz : ss.length ≤ 100 := hz
  have hs : ∀ s ∈ ss, SdOk n s := hs
  show PSs _ _ (tS E _ (Rn (IsQM C (flowsR rows ws ss))) _)
  rw [flowsR_enum]
  refine js_seq (js_setM (Rm := LsOf (IsL (IsQ C)) []) (ps_set (i := 3) nd rfl (.inl rfl) (jm_ls [] (jm_lst (pe_lst ja_nil))))) ?_
  refine js_cons (N1 := fun G => ∃ s4 s5 s6 s7 s8, G = [.fz (IsQM C rows), .fz (IsL (IsQ C) ws), .fz (IsL (IsSd C) ss), .mt (LsOf (IsL (IsQ C)) ((enumN ss).map fun p => (enumN ss).map fun q => if p.1 = q.1 then 0 else flowR rows ws p.2 q.2)), s4, s5, s6, s7, s8]) (js_for PassesOwn.never rfl (ji_enumN (Rx := IsSd C) (xs := ss) (pi_enum rfl Z.enum (ja_cons (jv 2) ja_nil))) (fun x => jg2 4 5 nd)
    (fun i G => ∃ s4 s5 s6 s7 s8, G = [.fz (IsQM C rows), .fz (IsL (IsQ C) ws), .fz (IsL (IsSd C) ss), .mt (LsOf (IsL (IsQ C)) (((enumN ss).take i).map fun p => (enumN ss).map fun q => if p.1 = q.1 then 0 else flowR rows ws p.2 q.2)), s4, s5, s6, s7, s8]) ⟨_, _, _, _, _, rfl⟩ ?_ (fun G1 h => by rwa [List.take_length] at h)) ?_
  · rintro i p G1 hi ⟨s4, s5, s6, s7, s8, rfl⟩
    have hpm := List.mem_of_getElem? (mem_enumN (List.mem_of_getElem? hi)).2
    refine js_seq (js_setM (Rm := LsOf (IsQ C) []) (ps_set (i := 6) nd rfl (.inl rfl) (jm_ls [] (jm_lst (pe_lst ja_nil))))) ?_
    refine js_cons (N1 := fun G => ∃ s7 s8, G = [.fz (IsQM C rows), .fz (IsL (IsQ C) ws), .fz (IsL (IsSd C) ss), .mt (LsOf (IsL (IsQ C)) (((enumN ss).take i).map fun p => (enumN ss).map fun q => if p.1 = q.1 then 0 else flowR rows ws p.2 q.2)), .fz (IsU p.1), .fz (IsSd C p.2), .mt (LsOf (IsQ C) ((enumN ss).map fun q => if p.1 = q.1 then 0 else flowR rows ws p.2 q.2)), s7, s8]) (js_for PassesOwn.never rfl (ji_enumN (Rx := IsSd C) (xs := ss) (pi_enum rfl Z.enum (ja_cons (jv 2) ja_nil))) (fun x => jg2 7 8 nd)
      (fun j G => ∃ s7 s8, G = [.fz (IsQM C rows), .fz (IsL (IsQ C) ws), .fz (IsL (IsSd C) ss), .mt (LsOf (IsL (IsQ C)) (((enumN ss).take i).map fun p => (enumN ss).map fun q => if p.1 = q.1 then 0 else flowR rows ws p.2 q.2)), .fz (IsU p.1), .fz (IsSd C p.2), .mt (LsOf (IsQ C) (((enumN ss).take j).map fun q => if p.1 = q.1 then 0 else flowR rows ws p.2 q.2)), s7, s8]) ⟨_, _, rfl⟩ ?_ (fun G1 h => by rwa [List.take_length] at h)) ?_
    · rintro j q G1 hj ⟨s7, s8, rfl⟩
      have hqm := List.mem_of_getElem? (mem_enumN (List.mem_of_getElem? hj)).2
      refine js_one (js_N (js_append (i := 6) (R := IsQ C (if p.1 = q.1 then 0 else flowR rows ws p.2 q.2)) (Rm' := LsOf (IsQ C) (((enumN ss).take (j + 1)).map fun q => if p.1 = q.1 then 0 else flowR rows ws p.2 q.2)) (ps_expr (pe_bm PySem.F.plainAttrs_list PySem.F.slot_list_append PySem.F.type_list_append mt_append (pv 6) (pa_cons (je_if (b1 := decide ((p.1 : Int) = (q.1 : Int))) (jt_cmp (pt_cmpR op_eq (jv 4 (R := IsU p.1)) (jv 7 (R := IsU q.1)) (nomark _)) rop_eqI) (fun h => je_eq (jmk1 mk (hr.mono (by decide)) (ja_cons jI ja_nil)) ?_) (fun h => je_eq (jc k_flow_between hr (rows, ws, p.2, q.2) (ja_cons (jv 0) (ja_cons (jv 1) (ja_cons (jv 5) (ja_cons (jv 8) ja_nil)))) ⟨n, hR, hs _ hpm, hs _ hqm⟩) ?_)) pa_nil))) rfl (fun vs v F a b => ?_) (fun vs F a => ?_)) ?_)
      · have h := of_decide_eq_true h
        rw [if_pos (by omega)]
        rfl
      · have h := of_decide_eq_false h
        rw [if_neg (by omega)]
      · rw [map_take hj]
        exact (a.here.snoc b).up
      · rw [← a.len, List.length_map, List.length_take, enumN_len]
        exact line_of (m := 1000) (by omega)
      · rintro G' rfl
        exact ⟨_, _, rfl⟩
    · rintro _ ⟨s7, s8, rfl⟩
      refine js_one (js_N (js_appendM (i := 3) (j := 6) (Rm' := LsOf (IsL (IsQ C)) (((enumN ss).take (i + 1)).map fun p => (enumN ss).map fun q => if p.1 = q.1 then 0 else flowR rows ws p.2 q.2)) (ps_expr (pe_bm PySem.F.plainAttrs_list PySem.F.slot_list_append PySem.F.type_list_append mt_append (pv 3) (pa_cons (pv 6) pa_nil))) (by decide) rfl rfl (fun vs v F a b => ?_) (fun vs F a => ?_)) ?_)
      · rw [map_take hi]
        exact (a.here.snoc b).up
      · rw [← a.len, List.length_map, List.length_take, enumN_len]
        exact line_of (m := 1000) (by omega)
      · rintro G' rfl
        exact ⟨_, _, _, _, _, rfl⟩
  · rintro _ ⟨s4, s5, s6, s7, s8, rfl⟩
    exact js_one (js_retV (pv 3) rfl)
abbrev sp_is_joined (C : Addr) : Sp := Pr (ι := List (List Rat)) (fun w => [IsQM C w]) (fun w => 0 < w.length ∧ w.length ≤ 100 ∧ (∀ r ∈ w, r.length = w.length)) (fun w => Som (fun b : Bool => b = true ↔ Conn w) IsB)
abbrev Kn_is_joined (P : Program) (w : World) (K : PySem.W.Frag) (mg : Str → Option Value) (base : Heap) (C : Addr) : Prop := Kn P w K mg base "is_joined" 3 ["flows"] (sp_is_joined C)
theorem ok_is_joined (Z : Glo K mg C) (psign : PropK P w K mg base C "sign" 1 (sp_Rsign C)) {f : Addr} {fd : FuncData} (Fd : FnP K "is_joined" st_is_joined f fd) : FnOk P w K mg base CX0 3 f fd ["flows"] (sp_is_joined C) := by
  refine fn_pr Fd sc_is_joined (fun u => by first | rfl | (cases u <;> rfl)) (fun _ => False) (fun _ _ h => h.elim) (fun X u E hX hp hE => ?_)
  obtain ⟨cdv, A, outer, s, H, E', rfl, hr⟩ := hX
  refine PSs.nox ?_
  have nd := (sc_is_joined).nd
  replace hr : Room 2 (cxOf CX0 P w K mg base N_is_joined "is_joined" (defScope st_is_joined) f cdv A outer s H E').nox.A := hr
  rename List (List Rat) => fl
  obtain ⟨h0, hz, hrr⟩ := hp
  refine js_seq (js_asgMM (i := 1) (j := 2) (Rm := LsOf IsU [0]) (Rl := LsOf IsU [0]) (by decide) (ps_asg (pe_tup (pa_cons (jm_ls [0] (jm_lst (pe_lst (ja_cons jI ja_nil)))) (pa_cons (jm_ls [0] (jm_lst (pe_lst (ja_cons jI ja_nil)))) pa_nil))) (pg_tup rfl (pgs_cons (gN 1 nd) (pgs_cons (gN 2 nd) pgs_nil))))) ?_
  refine js_cons (N1 := fun G => ∃ met s3 s4, JX fl met [] ∧ G = [.fz (IsQM C fl), .mt (LsOf IsU met), .mt (LsOf IsU []), s3, s4, .un, .un]) (js_while PassesOwn.never (m0 := 2 * (fl.length - 1) + 1) (fun m G => ∃ met late s3 s4, m = 2 * (fl.length - met.length) + late.length ∧ late.length ≤ 1000 ∧ JX fl met late ∧ G = [.fz (IsQM C fl), .mt (LsOf IsU met), .mt (LsOf IsU late), s3, s4, .un, .un]) ⟨[0], [0], _, _, rfl, by decide, JX.start h0, rfl⟩ ?_) ?_
  · rintro m G1 ⟨met, late, s3, s4, hm, hl, hJ, rfl⟩
    refine ⟨!(late.map fun (n : Nat) => (n : Int)).isEmpty, jt_view (i := 2) rfl (jt_cmp (pt_cmpR (op_neD hr.units) (je_conv (jv 2) isU_lst) (je_m (jm_ls [] (jm_lst (pe_lst ja_nil)))) (nomark _)) rop_neNil), fun hb => ?_, fun hb => ?_⟩
    · have hne : late ≠ [] := fun e => by subst e; exact absurd hb (by decide)
      obtain ⟨late', at_, rfl⟩ : ∃ l x, late = l ++ [x] := ⟨late.dropLast, late.getLast hne, (List.dropLast_concat_getLast hne).symm⟩
      have ha : at_ ∈ met := hJ.j.sub at_ (by simp)
      have hal := hJ.j.lt at_ ha
      have hJ2 := hJ.step hrr
      have hml := nodup_le hJ.j.nd hJ.j.lt
      have hml2 := nodup_le hJ2.j.nd hJ2.j.lt
      rw [List.length_append] at hml2
      have hl1 : late'.length + 1 ≤ 1000 := by simpa using hl
      refine js_seq (js_pop (i := 2) (j := 3) (R := IsU at_) (Rm' := LsOf IsU late') (ps_set (i := 3) nd rfl (.inl rfl) (pe_bm0 PySem.F.plainAttrs_list PySem.F.slot_list_pop PySem.F.type_list_pop mt_pop (pv 2))) (by decide) rfl (fun vs F u => ?_)) ?_
      · have hh := u.here
        have hlen := hh.len
        rw [List.length_append] at hlen
        obtain ⟨v, hv, uv⟩ := hh.get (i := late'.length) (x := at_) (by simp)
        refine ⟨v, by rw [← hlen]; simpa using hv, uv, ?_⟩
        have := paired_take hh late'.length
        rw [List.take_left] at this
        refine LsOf.up ?_
        rw [List.dropLast_eq_take, ← hlen, List.length_singleton, Nat.add_sub_cancel]
        exact this
      refine js_seq (js_setLc (i := 4) (own := [("flow", 5), ("spot", 6)]) (fun q : Nat × Rat => decide (0 < q.2) && !decide (q.1 ∈ met)) (fun q : Nat × Rat => q.1) rfl nd rfl rfl (sw_true rfl rfl rfl (by decide +kernel)) (ji_enumN (Rx := IsQ C) (xs := fl[at_]!) (pi_enum rfl Z.enum (ja_cons (je_op (pe_ix ix_list (jv 0 (R := IsQM C fl)) (jv 3 (R := IsU at_)) (fun _ _ => rfl)) (rop_ixB hal)) ja_nil))) (blkOk_by (by kernel_rfl)) (by decide) (fun s H C' cl fp x => jg2 6 5 nd) (fun s H C' cl fp x hx => jts_one (PW.pt (jw_and (jt_eq (jt_cmp (pt_cmpR op_gt (jprop psign hr x.2 (jv 5 (R := IsQ C x.2)) rfl trivial rfl) jI (nomark _)) rop_gt) (by rw [q_sgn_pos])) fun _ => jw_and1 (jt_eq (jt_view (i := 1) rfl (jt_cmp (pt_cmpR op_notIn_seq (jv 6 (R := IsU x.1)) (je_conv (jv 1) isU_lst) (by with_unfolding_all rfl)) rop_notIn)) ?_)))) (fun s H C' cl fp x hx _ => jv 6 (R := IsU x.1)) (line_of (m := 1000) ?_)) ?_
      · congr 1
        rw [decide_eq_decide, List.mem_map]
        constructor
        · rintro ⟨a, h1, h2⟩
          rw [← Int.ofNat.inj h2]
          exact h1
        · exact fun h => ⟨_, h, rfl⟩
      · rw [enumN_len, hrr _ (get_mem hal)]
        omega
      refine js_frz (i := 4) rfl ?_
      have e : ((enumN fl[at_]!).filter fun q : Nat × Rat => decide (0 < q.2) && !decide (q.1 ∈ met)).map (fun q : Nat × Rat => q.1) = moreR fl at_ met := rfl
      rw [e]
      generalize moreR fl at_ met = more at *
      refine js_seq (js_extend (i := 1) (Rx := IsU) (ys := more) (Rm' := LsOf IsU (met ++ more)) (ps_expr (pe_bm PySem.F.plainAttrs_list PySem.F.slot_list_extend PySem.F.type_list_extend mt_extend (pv 1) (pa_cons (jv 4) pa_nil))) rfl (fun vs ws F a b => LsOf.up (paired_app a.here b)) (fun vs F a => ?_)) ?_
      · rw [← a.len]
        have h6 : (100000 : Nat) ≤ sizeLine := by decide
        omega
      refine js_one (js_N (js_extend (i := 2) (Rx := IsU) (ys := more) (Rm' := LsOf IsU (late' ++ more)) (ps_expr (pe_bm PySem.F.plainAttrs_list PySem.F.slot_list_extend PySem.F.type_list_extend mt_extend (pv 2) (pa_cons (jv 4) pa_nil))) rfl (fun vs ws F a b => LsOf.up (paired_app a.here b)) (fun vs F a => ?_)) ?_)
      · rw [← a.len]
        have h6 : (100000 : Nat) ≤ sizeLine := by decide
        omega
      · rintro G' rfl
        refine ⟨2 * (fl.length - (met ++ more).length) + (late' ++ more).length, ?_, met ++ more, late' ++ more, _, _, rfl, ?_, hJ2, rfl⟩
        · rw [List.length_append, List.length_append, hm, List.length_append, List.length_singleton]
          omega
        · have := hJ2.j.late_le
          omega
    · have he : late = [] := by
        cases late with
        | nil => rfl
        | cons x l => exact absurd hb (by simp)
      subst he
      exact ⟨met, s3, s4, hJ, rfl⟩
  · rintro _ ⟨met, s3, s4, hJ, rfl⟩
    refine js_one (js_ret (je_conv (je_view (i := 1) (R := IsB (decide ((met.length : Int) = (fl.length : Int)))) rfl (fun v F F' h => h) (je_op (pe_cmpR op_eq (jbB call_len Z.len boot_len (ja_cons (jv 1 (R := IsL IsU met)) ja_nil) rc_len) (jbB call_len Z.len boot_len (ja_cons (jv 0 (R := IsQM C fl)) ja_nil) rc_len) (nomark _)) rop_eqI)) (fun v F h => ⟨decide ((met.length : Int) = (fl.length : Int)), by
      show decide ((met.length : Int) = (fl.length : Int)) = true ↔ Conn fl
      rw [decide_eq_true_eq]
      exact Iff.trans ⟨fun h => by omega, fun h => by omega⟩ hJ.full, h⟩)))
end
end Gw
set_option maxHeartbeats 4000000
/-! A list of lists of this def's own whose inner lists turn. -/
namespace Gw
open PySem PySem.Spec PyProof.Rows L2
theorem paired_of_get {α β : Type} {P : α → β → Prop} : ∀ {xs : List α} {ys : List β}, xs.length = ys.length → (∀ (i : Nat) (x : α) (y : β), xs[i]? = some x → ys[i]? = some y → P x y) → Paired P xs ys
  | [], [], _, _ => .nil
  | [], y :: ys, h, _ => by simp at h
  | x :: xs, [], h, _ => by simp at h
  | x :: xs, y :: ys, h, k => .cons (k 0 x y rfl rfl) (paired_of_get (by simpa using h) fun i a b ha hb => k (i + 1) a b (by simpa using ha) (by simpa using hb))
theorem gw_ixN {n j : Nat} (hj : j < n) : ixN n (j : Int) = some j := by
  unfold ixN
  rw [if_pos (by omega), if_pos (by omega)]
  simp
section
variable {X : Cx} {E : En} {G : List Sl} {α β : Type} {R : α → V → Hp → Prop} {e : Expr} {st : Stmt} {rest body : List Stmt} {pos : Pos}
/-- new lists in a new list -/
def tLM (E : En) (G : List Sl) (R : α → V → Hp → Prop) (l0 : List α) (n : Nat) : TE := fun σ H Q => ∃ F, Sat E G σ F H ∧ ∀ (p : Addr) (qs : List Addr) (F' H' : Hp), Gr E.pp F H F' H' → H p = none → F' p = none → H' p = some (.lst (qs.map V.ref)) → qs.length = n → qs.Nodup → p ∉ qs →
  (∀ q ∈ qs, H q = none ∧ F' q = none ∧ ∃ us, H' q = some (.lst us) ∧ LsOf R l0 us F') → Q (.ref p) H'
theorem lc_readM {Rx : β → V → Hp → Prop} {xs : List β} {own : List (Str × Nat)} {idx : List Nat} {f : β → List Sl → List Sl} (l0 : List α) (hidx : ∀ k ∈ idx, k ∈ own.map (·.2)) (hz : xs.length < sizeLine) {σ : L2.St} {H : Hp} {Q : VK}
    (hw : tLM E G R l0 xs.length σ H Q) : tLc (tI E G Rx xs) (fun v σ H Q => ∃ x, tG E (Rx x) idx (f x) v σ H Q) (fun σ H Q => ∃ q : { x // x ∈ xs }, tT E (f q.1 (wipeG G (own.map (·.2)))) true σ H Q)
      (fun σ H Q => ∃ q : { x // x ∈ xs }, tM E (f q.1 (wipeG G (own.map (·.2)))) (LsOf R l0) σ H Q) (own.map (·.2)) σ H Q := by
  obtain ⟨F, S, k⟩ := hw
  refine ⟨F, S, fun J F1 H1 g1 src D hD => ?_⟩
  have hD0 : H D = none := g1.back hD
  have hpD : E.pp ≠ some D := fun z => by
    obtain ⟨_, x, y, h2, _⟩ := S.ok.p D z
    rw [hD0] at h2
    cases h2
  refine ⟨fun i m H2 => m = xs.length - i ∧ i ≤ xs.length ∧ ∃ (F2 : Hp) (qs : List Addr), Gr E.pp F H F2 H2 ∧ Ex F1 F2 ∧ F2 D = none ∧ H2 D = some (.lst (qs.map V.ref)) ∧ qs.length = i ∧ qs.Nodup ∧ D ∉ qs ∧ (∀ q ∈ qs, H q = none ∧ F2 q = none ∧ ∃ us, H2 q = some (.lst us) ∧ LsOf R l0 us F2),
    ⟨xs.length, rfl, Nat.zero_le _, F1, [], g1.trans (Gr.raw g1.ok hD), Ex.refl _, g1.s.back hD, upd_same, rfl, .nil, by simp, fun q hq => by simp at hq⟩, ?_⟩
  rintro i m H2 ⟨rfl, hi', F2, qs, g2, e2, n2, d2, l2, nd2, dq2, u2⟩
  have S2 := S.gr g2
  have npq : ∀ q ∈ qs, E.pp ≠ some q := fun q hq z => by
    obtain ⟨_, x, y, h2, _⟩ := S.ok.p q z
    rw [(u2 q hq).1] at h2
    cases h2
  by_cases hlt : i < xs.length
  · have hx : xs[i]? = some xs[i] := List.getElem?_eq_getElem hlt
    have hm : xs[i] ∈ xs := List.getElem_mem hlt
    refine .inr ⟨src.go i F2 H2 hlt e2 S2.ok.s, fun H3 => ∃ (F3 : Hp) (qs' : List Addr), Gr E.pp F H F3 H3 ∧ Ex F1 F3 ∧ F3 D = none ∧ H3 D = some (.lst (qs'.map V.ref)) ∧ qs'.length = i + 1 ∧ qs'.Nodup ∧ D ∉ qs' ∧ (∀ q ∈ qs', H q = none ∧ F3 q = none ∧ ∃ us, H3 q = some (.lst us) ∧ LsOf R l0 us F3),
      fun H3 q => ⟨xs.length - (i + 1), by omega, rfl, hlt, q⟩, fun v H3 y => ?_⟩
    obtain ⟨F3, g3, u3⟩ := src.yld i _ F2 H2 v H3 hx e2 S2.ok y
    have keep : ∀ {F' H' F'' H'' : Hp} {a : Addr}, E.pp ≠ some a → Gr E.pp F' H' F'' H'' → F' a = none → ∀ {o : HO}, H' a = some o → F'' a = none ∧ H'' a = some o := fun {F' H' F'' H'' a} hp gg hn {o} ho => by
      refine ⟨?_, gg.k a o ho hp⟩
      cases z : F'' a with
      | none => rfl
      | some w =>
        rcases gg.n a w z with q | q
        · rw [hn] at q; cases q
        · rw [ho] at q; cases q
    refine ⟨xs[i], wipeG G (own.map (·.2)), F3, (S2.gr g3).wipe _, u3, fun σ4 hw S4 => ⟨?_, ⟨xs[i], hm⟩, F3, S4, fun F4 H4 g4 => ?_⟩⟩
    · rw [hw _ hidx, wipe_idem fun _ h => h]
    · show ∃ q : { x // x ∈ xs }, tM E (f q.1 (wipeG G (own.map (·.2)))) (LsOf R l0) σ4 H4 _
      refine ⟨⟨xs[i], hm⟩, F4, S4.gr g4, fun q us F5 H5 g5 m1 m2 m3 u5 => ?_⟩
      have g35 := (g3.trans g4).trans g5
      obtain ⟨n5, d5⟩ := keep hpD g35 n2 d2
      have gg := g2.trans g35
      have hq0 : H q = none := g2.back (g3.back (g4.back m1))
      have hqD : q ≠ D := fun z => by
        obtain ⟨_, dd⟩ := keep hpD (g3.trans g4) n2 d2
        rw [z, dd] at m1
        cases m1
      have hqq : q ∉ qs := fun z => by
        obtain ⟨_, b2, us', b3, _⟩ := u2 q z
        obtain ⟨_, dd⟩ := keep (npq q z) (g3.trans g4) b2 b3
        rw [dd] at m1
        cases m1
      have hi2 : i < sizeLine := by omega
      refine ⟨qs.map V.ref, d5, by rw [List.length_map, l2]; exact hi2, F5, qs ++ [q], ?_, ((e2.trans g3.f).trans g4.f).trans g5.f, n5, by rw [upd_same, List.map_append]; rfl, by rw [List.length_append, l2]; rfl, ?_, ?_, ?_⟩
      · exact {
          f := gg.f
          s := fun a o z => by
            have ne : a ≠ D := fun w => by rw [w, n5] at z; cases z
            rw [upd_ne ne]
            exact gg.s a o z
          k := fun a o z hp => by
            have ne : a ≠ D := fun w => by rw [w, hD0] at z; cases z
            rw [upd_ne ne]
            exact gg.k a o z hp
          n := gg.n
          p := fun a ha => by
            obtain ⟨q1, x, y, q2, q3⟩ := gg.p a ha
            have ne : a ≠ D := fun w => hpD (by rw [← w]; exact ha)
            exact ⟨q1, x, y, by rw [upd_ne ne]; exact q2, q3⟩ }
      · rw [List.nodup_append]
        refine ⟨nd2, by simp, fun a h1 b h2 z => ?_⟩
        have : b = q := by simpa using h2
        subst z
        rw [this] at h1
        exact hqq h1
      · intro h
        rcases List.mem_append.mp h with z | z
        · exact dq2 z
        · exact hqD (by have : D = q := by simpa using z
                        exact this.symm)
      · intro a h
        rcases List.mem_append.mp h with z | z
        · obtain ⟨b1, b2, us', b3, b4⟩ := u2 a z
          obtain ⟨c1, c2⟩ := keep (npq a z) g35 b2 b3
          have ne : a ≠ D := fun w => dq2 (by rw [← w]; exact z)
          exact ⟨b1, c1, us', by rw [upd_ne ne]; exact c2, b4.up F5 g35.f⟩
        · have : a = q := by simpa using z
          subst this
          exact ⟨hq0, m2, us, by rw [upd_ne hqD]; exact m3, u5.here⟩
  · have e : i = xs.length := by omega
    subst e
    exact .inl ⟨src.stop F2 H2 e2 S2.ok.s, k D qs F2 H2 g2 hD0 n2 d2 l2 nd2 dq2 u2⟩
/-- name = [elt for ..], elt a new list, the name a local -/
theorem js_lcM {Rx : β → V → Hp → Prop} {xs : List β} {tg iter elt : Expr} {scope : Scope} {idx : List Nat} {f : β → List Sl → List Sl} {i : Nat} {y : Str} {py spos : Pos} (l0 : List α) (own : List (Str × Nat)) (hN : X.N.Nodup) (hi : PI X tg iter (tI E G Rx xs))
    (hg : ∀ (s : Shared) (H : Hp) (C : Addr) (cl : List (Str × Addr)) (fp : List Addr) (x : β), PG (X.blk s H scope (compEnvC scope cl C X.env) fp) tg (tG E (Rx x) idx (f x)))
    (he : ∀ (s : Shared) (H : Hp) (C : Addr) (cl : List (Str × Addr)) (fp : List Addr) (x : β), x ∈ xs → PE (X.blk s H scope (compEnvC scope cl C X.env) fp) elt (tM E (f x (wipeG G (own.map (·.2)))) (LsOf R l0)))
    (hz : xs.length < sizeLine) (hy : X.N[i]? = some y := by exact rfl) (hyl : X.env.scope.names.lookup y = some .local := by exact rfl) (hsw : swapsWith (.ListComp elt [⟨tg, iter, [], 0⟩] scope pos) (some (.Name y py)) spos.line X.env = pure true := by exact sw_true rfl rfl rfl (by decide +kernel))
    (ok : blkC X.N X.env.scope scope own = true := by kernel_rfl) (hc : X.calm = true := by rfl) (hidx : ∀ k ∈ idx, k ∈ own.map (·.2) := by decide) (hs : ∀ x, foldedSetIterable iter X.env x = pure x := by intro _; rfl) :
    PS X (.Assign [.Name y py] (.ListComp elt [⟨tg, iter, [], 0⟩] scope pos) spos) (tAsg (tLM E G R l0 xs.length) (gName i)) := by
  have P := ps_setLc (i := i) hc hN hy hyl hsw hi (blkOk_by ok) (g := fun v σ H Q => ∃ x, tG E (Rx x) idx (f x) v σ H Q) (tt := fun σ H Q => ∃ q : { x // x ∈ xs }, tT E (f q.1 (wipeG G (own.map (·.2)))) true σ H Q)
    (te := fun σ H Q => ∃ q : { x // x ∈ xs }, tM E (f q.1 (wipeG G (own.map (·.2)))) (LsOf R l0) σ H Q)
    (fun s H C cl fp => ⟨fun pins s' σ H' v u Q I r ⟨x, h⟩ => (hg s H C cl fp x).run pins s' σ H' v u Q I r h⟩) (fun s H C cl fp => PTs_any fun q => jts_nil) (fun s H C cl fp => PE_any fun q => he s H C cl fp q.1 q.2) hs
  refine PS_imp P fun D σ H hw => ?_
  revert hw
  show tLM E G R l0 xs.length σ H (fun v H1 => gName i v σ H1 D.nx) → tLc _ _ _ _ _ σ H (fun v H1 => gName i v σ H1 D.nx)
  exact lc_readM l0 hidx hz
/-! ### states by the heap as it stands -/
def Zt (E : En) (G : List Sl) (M : Hp → Hp → Prop) (F0 : Hp) (σ : L2.St) (H : Hp) : Prop := ∃ F, Ex F0 F ∧ Sat ⟨F, H, none⟩ G σ F H ∧ Gr none E.F E.H F H ∧ M F H
def tz (E : En) (G : List Sl) (M : Hp → Hp → Prop) (N : Hp → L2.St → Hp → Prop) (Rt : V → Hp → Hp → Prop) : TS := fun D σ H => ∃ F0, Zt E G M F0 σ H ∧ (∀ σ' H', N F0 σ' H' → D.nx σ' H') ∧ (∀ v F' H', Gr none E.F E.H F' H' → Rt v F' H' → D.rt v H')
def Stb (M : Hp → Hp → Prop) : Prop := ∀ F H F' H', Gr none F H F' H' → M F H → M F' H'
variable {M : Hp → Hp → Prop} {N : Hp → L2.St → Hp → Prop} {Rt : V → Hp → Hp → Prop}
theorem PS_any {ι : Type} {t : ι → TS} (h : ∀ i, PS X st (t i)) : PS X st (fun D σ H => ∃ i, t i D σ H) := ⟨fun pins s σ H D I ⟨i, hw⟩ => (h i).run pins s σ H D I hw⟩
theorem PI_any {ι : Type} {tg : Expr} {t : ι → TI} (h : ∀ i, PI X tg e (t i)) : PI X tg e (fun σ H R => ∃ i, t i σ H R) := ⟨fun pins s σ H R I ⟨i, hw⟩ => (h i).run pins s σ H R I hw⟩
theorem PG_any {ι : Type} {t : ι → TG} (h : ∀ i, PG X e (t i)) : PG X e (fun v σ H Q => ∃ i, t i v σ H Q) := ⟨fun pins s σ H v u Q I r ⟨i, hw⟩ => (h i).run pins s σ H v u Q I r hw⟩
theorem jz_cons {ι : Type} (Gf : ι → List Sl) (Mf : ι → Hp → Hp → Prop) (p : PS X st (tz E G M (fun F0 σ H => ∃ i, Zt E (Gf i) (Mf i) F0 σ H) Rt)) (q : ∀ i, PSs X rest (tz E (Gf i) (Mf i) N Rt)) : PSs X (st :: rest) (tz E G M N Rt) :=
  PSs_imp (pss_cons p (PSs_any q)) fun D σ H ⟨F0, z, kn, kr⟩ => ⟨F0, z, fun σ' H' ⟨i, zi⟩ => ⟨i, F0, zi, kn, kr⟩, kr⟩
theorem jz_one (p : PS X st (tz E G M N Rt)) : PSs X [st] (tz E G M N Rt) := pss_one p
theorem jz_N {N' : Hp → L2.St → Hp → Prop} (p : PS X st (tz E G M N Rt)) (h : ∀ F0 σ H, N F0 σ H → N' F0 σ H) : PS X st (tz E G M N' Rt) := PS_imp p fun D σ H ⟨F0, z, kn, kr⟩ => ⟨F0, z, fun σ' H' n => kn σ' H' (h F0 σ' H' n), kr⟩
/-- a statement that leaves the inner lists alone -/
theorem jz_lift {G1 : List Sl} (hM : Stb M) (h1 : Plain G1) (p : ∀ E' : En, E'.pp = none → PS X st (tS E' G (fun _ _ _ => False) (· = G1))) : PS X st (tz E G M (fun F0 σ H => Zt E G1 M F0 σ H) Rt) :=
  PS_imp (PS_any (ι := { E' : En // E'.pp = none }) fun E' => p E'.1 E'.2) fun D σ H ⟨F0, ⟨F, e0, S, g, m⟩, kn, kr⟩ => ⟨⟨⟨F, H, none⟩, rfl⟩, F, S, fun G' σ' F' H' n S' e => by
    subst n
    have gg : Gr none F H F' H' := S'.bs
    exact kn σ' H' ⟨F', e0.trans e, S'.reE h1 S'.bs.s, g.trans gg, hM _ _ _ _ gg m⟩, fun _ _ _ _ z => z.elim⟩
theorem jz_for {Rx : β → V → Hp → Prop} {xs : List β} {tg iter : Expr} {idx : List Nat} {f : β → List Sl → List Sl} (hp : PassesOwn (model X.prog X.w) X.A X.env X.xe) (hc : X.calm = true)
    (hi : ∀ E' : En, E'.pp = none → PI X tg iter (tI E' G Rx xs)) (hg : ∀ (E' : En) x, PG X tg (tG E' (Rx x) idx (f x))) (Gp : Nat → List Sl → Prop) (hpl : ∀ i G, Gp i G → Plain G) (hpf : ∀ x G, Plain G → Plain (f x G)) (Mf : Nat → Hp → Hp → Prop) (hM : ∀ i, Stb (Mf i)) (h0 : Gp 0 G)
    (hb : ∀ (i : Nat) (x : β) (G1 : List Sl), xs[i]? = some x → Gp i G1 → PSs X body (tz E (f x G1) (Mf i) (fun F0 σ H => ∃ G2, Gp (i + 1) G2 ∧ Zt E G2 (Mf (i + 1)) F0 σ H) Rt))
    (hs : ∀ x, foldedSetIterable iter X.env x = pure x := by intro _; rfl) : PS X (.For tg iter body [] pos) (tz E G (Mf 0) (fun F0 σ H => ∃ G2, Gp xs.length G2 ∧ Zt E G2 (Mf xs.length) F0 σ H) Rt) := by
  have pi := PI_any (X := X) (ι := { E' : En // E'.pp = none }) fun E' => hi E'.1 E'.2
  have pg := PG_any (X := X) (e := tg) (ι := En × β) (t := fun q => tG q.1 (Rx q.2) idx (f q.2)) fun q => hg q.1 q.2
  have pb := PSs_any (X := X) (st := body) (ι := { q : Nat × β × List Sl // xs[q.1]? = some q.2.1 ∧ Gp q.1 q.2.2 }) (t := fun q => tz E (f q.1.2.1 q.1.2.2) (Mf q.1.1) (fun F0 σ H => ∃ G2, Gp (q.1.1 + 1) G2 ∧ Zt E G2 (Mf (q.1.1 + 1)) F0 σ H) Rt) fun q => hb _ _ _ q.2.1 q.2.2
  refine PS_imp (ps_for hp hc pi pg pb hs) fun D σ H ⟨F0, ⟨F, e0, S, g, m⟩, kn, kr⟩ => ?_
  refine ⟨⟨⟨F, H, none⟩, rfl⟩, F, S, fun J F1 H1 g1 src => ?_⟩
  have g1 : Gr none F H F1 H1 := g1
  have src : Src none J F1 Rx xs := src
  refine ⟨fun i m σ2 H2 => m = xs.length - i ∧ i ≤ xs.length ∧ ∃ G2, Gp i G2 ∧ ∃ F2, Ex F1 F2 ∧ Sat ⟨F2, H2, none⟩ G2 σ2 F2 H2 ∧ Gr none E.F E.H F2 H2 ∧ Mf i F2 H2, ⟨xs.length, rfl, Nat.zero_le _, G, h0, F1, Ex.refl _, (S.gr g1).reE (hpl 0 G h0) g1.s, g.trans g1, hM 0 _ _ _ _ g1 m⟩, ?_⟩
  rintro i m σ2 H2 ⟨rfl, hi', G2, gp, F2, e2, S2, gE, m2⟩
  by_cases hlt : i < xs.length
  · have hx : xs[i]? = some xs[i] := List.getElem?_eq_getElem hlt
    refine .inr ⟨src.go i F2 H2 hlt e2 S2.ok.s, fun σ3 H3 => ∃ G3, Gp (i + 1) G3 ∧ ∃ F3, Ex F1 F3 ∧ Sat ⟨F3, H3, none⟩ G3 σ3 F3 H3 ∧ Gr none E.F E.H F3 H3 ∧ Mf (i + 1) F3 H3, fun σ3 H3 q => ⟨xs.length - (i + 1), by omega, rfl, hlt, q⟩, fun v H3 y => ?_⟩
    obtain ⟨F3, g3, u3⟩ := src.yld i _ F2 H2 v H3 hx e2 S2.ok y
    have g3 : Gr none F2 H2 F3 H3 := g3
    refine ⟨(⟨F3, H3, none⟩, xs[i]), G2, F3, (S2.gr g3).reE (hpl i G2 gp) g3.s, u3, fun σ4 _ S4 => ?_⟩
    refine ⟨⟨(i, xs[i], G2), hx, gp⟩, F1, ⟨F3, e2.trans g3.f, S4, gE.trans g3, hM i _ _ _ _ g3 m2⟩, fun σ5 H5 ⟨G5, gp5, F5, e5, S5, gE5, m5⟩ => ⟨G5, gp5, F5, e5, S5, gE5, m5⟩, kr⟩
  · have e : i = xs.length := by omega
    subst e
    exact .inl ⟨src.stop F2 H2 e2 S2.ok.s, kn σ2 H2 ⟨G2, gp, F2, (e0.trans g1.f).trans e2, S2, gE, m2⟩⟩
/-- the inner lists -/
def Mm (R : α → V → Hp → Prop) (E : En) (qs : List Addr) (lf : Nat → List α) (F H : Hp) : Prop := qs.Nodup ∧ ∀ (k : Nat) (q : Addr), qs[k]? = some q → E.H q = none ∧ F q = none ∧ ∃ us, H q = some (.lst us) ∧ LsOf R (lf k) us F
theorem mm_stb {qs : List Addr} {lf : Nat → List α} : Stb (Mm R E qs lf) := fun F H F' H' g ⟨nd, h⟩ => ⟨nd, fun k q hq => by
  obtain ⟨h1, h2, us, h3, h4⟩ := h k q hq
  refine ⟨h1, ?_, us, g.k q _ h3 (fun z => nomatch z), h4.up F' g.f⟩
  cases z : F' q with
  | none => rfl
  | some o =>
    rcases g.n q o z with w | w
    · rw [h2] at w; cases w
    · rw [h3] at w; cases w⟩
/-- ahead[head] = number -/
theorem jz_poke {i j hd : Nat} {q : Addr} {qs : List Addr} {lf : Nat → List α} {x : α} (hG : G[i]? = some (.fz (IsC (.ref q)))) (hPl : Plain G) (hq : qs[j]? = some q) (hl : hd < (lf j).length)
    (p : ∀ E' : En, E'.pp = none → PS X st (tAsg (tE E' G (R x)) (gSub (tVar i) (tE E' G (IsU hd)) rSetL))) : PS X st (tz E G (Mm R E qs lf) (fun F0 σ H => Zt E G (Mm R E qs (fun k => if k = j then (lf j).set hd x else lf k)) F0 σ H) Rt) :=
  PS_imp (PS_any (ι := { E' : En // E'.pp = none }) fun E' => p E'.1 E'.2) fun D σ H ⟨F0, ⟨F, e0, S, g, m⟩, kn, kr⟩ => ⟨⟨⟨F, H, none⟩, rfl⟩, F, S, fun v F1 H1 g1 u1 => by
    have g1 : Gr none F H F1 H1 := g1
    obtain ⟨w, ew, uw⟩ := S.fz i _ hG
    have e1 : w = .ref q := uw.here
    subst e1
    refine ⟨.ref q, ew, F1, S.gr g1, fun w2 F2 H2 g2 u2 => ?_⟩
    have g2 : Gr none F1 H1 F2 H2 := g2
    have m2 := mm_stb _ _ _ _ (g1.trans g2) m
    have gE := (g.trans g1).trans g2
    have S2 := (S.gr g1).gr g2
    obtain ⟨nd, hm⟩ := m2
    obtain ⟨h1, h2, us, h3, h4⟩ := hm j q hq
    have hlen := h4.len
    refine ⟨q, us, (hd : Int), hd, rfl, u2.here, h3, ?_, ?_⟩
    · show ixN us.length (hd : Int) = some hd
      exact gw_ixN (by omega)
    · have hx : Ex F2 (upd H2 q (.lst (us.set hd v))) := fun a o z => by
        have ne : a ≠ q := fun w => by rw [w, h2] at z; cases z
        rw [upd_ne ne]
        exact gE.s a o z
      refine kn σ _ ⟨F2, (e0.trans g1.f).trans g2.f, S2.reE hPl hx, ?_, nd, fun k q' hk => ?_⟩
      · exact {
          f := gE.f
          s := hx
          k := fun a o z hp => by
            have ne : a ≠ q := fun w => by rw [w, h1] at z; cases z
            rw [upd_ne ne]
            exact gE.k a o z hp
          n := gE.n
          p := fun _ z => nomatch z }
      · obtain ⟨a1, a2, us', a3, a4⟩ := hm k q' hk
        by_cases z : k = j
        · subst z
          rw [hq] at hk
          cases hk
          refine ⟨h1, h2, us.set hd v, upd_same, ?_⟩
          show LsOf R (if k = k then (lf k).set hd x else lf k) _ F2
          rw [if_pos rfl]
          exact paired_set h4 (u1.mono g2.f) hd
        · have ne : q' ≠ q := fun w => z (by
            subst w
            exact (List.getElem?_inj (List.getElem?_eq_some_iff.mp hk).1 nd).mp (hk.trans hq.symm))
          refine ⟨a1, a2, us', by rw [upd_ne ne]; exact a3, ?_⟩
          show LsOf R (if k = j then (lf j).set hd x else lf k) _ F2
          rw [if_neg z]
          exact a4⟩
/-- into such a state -/
theorem jz_enter {i n : Nat} {l0 : List α} {Nj : List Sl → Prop} (hE : E.pp = none) (hPl : Plain G) (p : PS X st (tAsg (tLM E G R l0 n) (gName i)))
    (q : ∀ qs : List Addr, qs.length = n → PSs X rest (tz E (G.set i (.fz (IsL (fun a => IsC (.ref a)) qs))) (Mm R E qs (fun _ => l0)) (fun _ _ _ => False) Rt)) : PSs X (st :: rest) (tS E G Rt Nj) :=
  PSs_imp (pss_cons p (PSs_any (ι := { qs : List Addr // qs.length = n }) fun qs => q qs.1 qs.2)) fun D σ H ⟨F, S, kn, kr⟩ => ⟨F, S, fun p qs F' H' g n1 n2 n3 l nd pq u => by
    have g' : Gr E.pp F H (upd F' p (.lst (qs.map V.ref))) H' := Gr_frz S.ok g n1 n2 n3
    have S' := S.gr g'
    have uL : Up (IsL (fun a => IsC (.ref a)) qs) (.ref p) (upd F' p (.lst (qs.map V.ref))) := LstOf.up ⟨p, _, rfl, upd_same, LsOf.up (paired_of_get (by simp) fun k a v h1 h2 => by
      rw [List.getElem?_map, h1] at h2
      cases h2
      exact fun _ _ => rfl)⟩
    have S2 := S'.set_fz (i := i) uL
    have hP2 : Plain (G.set i (.fz (IsL (fun a => IsC (.ref a)) qs))) := fun k s hk => by
      by_cases z : k = i
      · subst z
        rw [List.getElem?_set_self (by have := (List.getElem?_eq_some_iff.mp hk).1; simpa using this)] at hk
        cases hk
        exact .inr ⟨_, rfl⟩
      · rw [List.getElem?_set_ne (Ne.symm z)] at hk
        exact hPl k s hk
    have gE : Gr none E.F E.H (upd F' p (.lst (qs.map V.ref))) H' := by
      have := S2.bs
      unfold Bs at this
      rwa [hE] at this
    refine ⟨⟨qs, l⟩, upd F' p (.lst (qs.map V.ref)), ⟨_, Ex.refl _, S2.reE hP2 gE.s, gE, nd, fun k q hq => ?_⟩, fun _ _ z => z.elim, fun v F2 H2 gg r => kr v F2 H2 (by
      show Gr E.pp E.F E.H F2 H2
      rw [hE]
      exact gg) r⟩
    obtain ⟨b1, b2, us, b3, b4⟩ := u q (List.mem_of_getElem? hq)
    have ne : q ≠ p := fun w => pq (by rw [← w]; exact List.mem_of_getElem? hq)
    exact ⟨S.bs.back b1, by rw [upd_ne ne]; exact b2, us, b3, b4.up _ (Ex.new n2)⟩⟩
/-- return found -/
theorem jz_ret {i : Nat} {qs : List Addr} {lf : Nat → List α} (p : PE X e (tVar i)) (hG : G[i]? = some (.fz (IsL (fun a => IsC (.ref a)) qs))) : PS X (.Return (some e) pos) (tz E G (Mm R E qs lf) N (Rn (IsL (IsL R) ((List.range qs.length).map lf)))) :=
  PS_imp (ps_ret p) fun D σ H ⟨F0, ⟨F, e0, S, g, nd, m⟩, kn, kr⟩ => by
    obtain ⟨v, ev, uv⟩ := S.fz i _ hG
    obtain ⟨p, ws, rfl, hp, hw⟩ := uv.here
    have hws : ws = qs.map V.ref := by
      have all : ∀ {qs : List Addr} {ws : List V}, LsOf (fun a => IsC (.ref a)) qs ws F → ws = qs.map V.ref := by
        intro qs
        induction qs with
        | nil => intro ws h; cases h; rfl
        | cons q qs ih =>
          intro ws h
          cases h with
          | cons h1 h2 => rw [ih h2, show _ = V.ref q from h1.here]; rfl
      exact all hw.here
    subst hws
    have hF : ∀ q ∈ qs, F q = none := fun q hq => by
      obtain ⟨k, hk⟩ := List.getElem?_of_mem hq
      exact (m k q hk).2.1
    have ex : Ex F (fun a => if a ∈ qs then H a else F a) := fun a o z => by
      have ne : a ∉ qs := fun w => by rw [hF a w] at z; cases z
      show (if a ∈ qs then H a else F a) = some o
      rw [if_neg ne]
      exact z
    refine ⟨.ref p, ev, kr _ (fun a => if a ∈ qs then H a else F a) H ?_ ?_⟩
    · exact {
        f := g.f.trans ex
        s := fun a o z => by
          have z : (if a ∈ qs then H a else F a) = some o := z
          by_cases w : a ∈ qs
          · rwa [if_pos w] at z
          · rw [if_neg w] at z
            exact g.s a o z
        k := g.k
        n := fun a o z => by
          have z : (if a ∈ qs then H a else F a) = some o := z
          by_cases w : a ∈ qs
          · obtain ⟨k, hk⟩ := List.getElem?_of_mem w
            exact .inr (m k a hk).1
          · rw [if_neg w] at z
            exact g.n a o z
        p := fun _ z => nomatch z }
    · refine LstOf.up ⟨p, qs.map V.ref, rfl, ex _ _ hp, LsOf.up (paired_of_get (by simp) fun k l v h1 h2 => ?_)⟩
      rw [List.getElem?_map] at h1 h2
      cases e1 : qs[k]? with
      | none => rw [e1] at h2; cases h2
      | some q =>
        rw [e1] at h2
        have hk := (List.getElem?_eq_some_iff.mp e1).1
        rw [List.getElem?_range hk] at h1
        cases h1
        cases h2
        obtain ⟨a1, a2, us, a3, a4⟩ := m k q e1
        refine LstOf.up ⟨q, us, rfl, ?_, (a4.up _ ex |> LsOf.up)⟩
        show (if q ∈ qs then H q else F q) = _
        rw [if_pos (List.mem_of_getElem? e1)]
        exact a3
end
theorem le_set (G : List Sl) : ∀ i : Nat, Paired Le G (G.set i .un) := by
  induction G with
  | nil => intro i; exact .nil
  | cons s G ih =>
    intro i
    cases i with
    | zero => exact .cons .un (le_refl' G)
    | succ i => exact .cons (Le.rfl' s) (ih i)
where le_refl' : ∀ G : List Sl, Paired Le G G
  | [] => .nil
  | s :: G => .cons (Le.rfl' s) (le_refl' G)
theorem Le.trans' {a b c : Sl} (h : Le a b) (k : Le b c) : Le a c := by
  cases k with
  | un => exact .un
  | fz k => cases h with
    | fz h => exact .fz fun v F q => k v F (h v F q)
  | mt k => cases h with
    | mt h => exact .mt fun v F q => k v F (h v F q)
  | pot => exact h
theorem le_pair_trans : ∀ {A B D : List Sl}, Paired Le A B → Paired Le B D → Paired Le A D
  | _, _, _, .nil, .nil => .nil
  | _, _, _, .cons r t, .cons r' t' => .cons (r.trans' r') (le_pair_trans t t')
theorem le_wipe (G : List Sl) : ∀ vs : List Nat, Paired Le G (wipeG G vs)
  | [] => le_set.le_refl' G
  | v :: vs => le_pair_trans (le_wipe G vs) (le_set _ v)
theorem Zt.wipe {E : En} {G : List Sl} {M : Hp → Hp → Prop} {F0 : Hp} {σ : L2.St} {H : Hp} (z : Zt E G M F0 σ H) (vs : List Nat) : Zt E (wipeG G vs) M F0 σ H := let ⟨F, e, S, g, m⟩ := z; ⟨F, e, S.weakL (le_wipe G vs), g, m⟩
theorem Zt.imp {E : En} {G : List Sl} {M M' : Hp → Hp → Prop} {F0 : Hp} {σ : L2.St} {H : Hp} (z : Zt E G M F0 σ H) (h : ∀ F H, M F H → M' F H) : Zt E G M' F0 σ H := let ⟨F, e, S, g, m⟩ := z; ⟨F, e, S, g, h _ _ m⟩
theorem Mm.congr {α : Type} {R : α → V → Hp → Prop} {E : En} {qs : List Addr} {lf lf' : Nat → List α} {F H : Hp} (m : Mm R E qs lf F H) (h : ∀ k, k < qs.length → lf k = lf' k) : Mm R E qs lf' F H := ⟨m.1, fun k q hq => by
  rw [← h k (List.getElem?_eq_some_iff.mp hq).1]
  exact m.2 k q hq⟩
def plS (s : Sl) : Prop := s = .un ∨ ∃ R, s = .fz R
theorem plain_of {G : List Sl} (h : ∀ s ∈ G, plS s) : Plain G := fun i s hs => h s (List.mem_of_getElem? hs)
theorem plain_nil : ∀ s ∈ ([] : List Sl), plS s := fun s h => by simp at h
theorem plain_fz {R : V → Hp → Prop} {G : List Sl} (h : ∀ s ∈ G, plS s) : ∀ s ∈ Sl.fz R :: G, plS s := fun s hs => by
  rcases List.mem_cons.mp hs with e | e
  · exact .inr ⟨R, e⟩
  · exact h s e
theorem plain_un {G : List Sl} (h : ∀ s ∈ G, plS s) : ∀ s ∈ Sl.un :: G, plS s := fun s hs => by
  rcases List.mem_cons.mp hs with e | e
  · exact .inl e
  · exact h s e
theorem jz_M {X : Cx} {E : En} {G : List Sl} {st : Stmt} {M M' : Hp → Hp → Prop} {N : Hp → L2.St → Hp → Prop} {Rt : V → Hp → Hp → Prop} (p : PS X st (tz E G M' N Rt)) (h : ∀ F H, M F H → M' F H) : PS X st (tz E G M N Rt) := PS_imp p fun D σ H ⟨F0, z, kn, kr⟩ => ⟨F0, z.imp h, kn, kr⟩
theorem plain_s {s : Sl} {G : List Sl} (h0 : plS s) (h : ∀ s ∈ G, plS s) : ∀ t ∈ s :: G, plS t := fun t ht => by
  rcases List.mem_cons.mp ht with e | e
  · rw [e]; exact h0
  · exact h t e
theorem plain_set {G : List Sl} {i : Nat} {R : V → Hp → Prop} (h : Plain G) : Plain (G.set i (.fz R)) := fun k s hs => by
  by_cases q : k = i
  · subst q
    rw [List.getElem?_set_self (by have := (List.getElem?_eq_some_iff.mp hs).1; simpa using this)] at hs
    cases hs
    exact .inr ⟨_, rfl⟩
  · rw [List.getElem?_set_ne (Ne.symm q)] at hs
    exact h k s hs
end Gw
set_option maxHeartbeats 4000000
namespace Gw
open PySem PySem.Spec PyProof.Rows L2
section
variable {P : Program} {w : World} {K : PySem.W.Frag} {mg : Str → Option Value} {base : Heap} {C : Addr}
structure AhP (flows goals : List (List Rat)) : Prop where
  n : flows.length ≤ 100
  rr : ∀ r ∈ flows, r.length = flows.length
  fl : ∀ r ∈ flows, FitsL 0 r
  f1 : ∀ r ∈ flows, ∀ x ∈ r, Fits 0 x
  gl : goals.length ≤ 100
  gr : ∀ g ∈ goals, g.length = flows.length
  sol : SolP (lapRows flows goals)
  sr : ∀ row ∈ steps_ofR (lapRows flows goals), row.length = flows.length + goals.length ∧ headQ row < flows.length
  sl : (steps_ofR (lapRows flows goals)).length ≤ 1000
theorem lapRows_enum (flows goals : List (List Rat)) : lapRows flows goals = (enumN flows).map fun p => lapRow p.2 p.1 goals := by
  unfold lapRows enumN
  rw [List.map_map]
  rfl
theorem foldl_set_len {rs : List (List Rat)} {n k : Nat} : ∀ {l : List Rat}, (rs.foldl (fun l row => l.set (headQ row) (row[n + k]!)) l).length = l.length := by
  induction rs with
  | nil => intro l; rfl
  | cons r rs ih => intro l; rw [List.foldl_cons, ih, List.length_set]
abbrev sp_worths_ahead (C : Addr) : Sp := Pr (ι := List (List Rat) × List (List Rat)) (fun w => [IsQM C w.1, IsQM C w.2]) (fun w => AhP w.1 w.2) (fun w => IsQM C (aheadsR w.1 w.2))
abbrev Kn_worths_ahead (P : Program) (w : World) (K : PySem.W.Frag) (mg : Str → Option Value) (base : Heap) (C : Addr) : Prop := Kn P w K mg base "worths_ahead" 8 ["flows", "goals"] (sp_worths_ahead C)
theorem ok_worths_ahead (Z : Glo K mg C) (mk : Mkr P w K mg base C 2) (osub : Opr P w K mg base C .Sub 6 (fun w => Fits w.1 w.2) (· - ·)) (k_total_of : Kn_total_of P w K mg base C) (k_steps_of : Kn_steps_of P w K mg base C) (k_head_of : Kn_head_of P w K mg base C) (ptop : PropK P w K mg base C "top" 1 (sp_Rtop C)) {f : Addr} {fd : FuncData} (Fd : FnP K "worths_ahead" st_worths_ahead f fd) : FnOk P w K mg base CX0 8 f fd ["flows", "goals"] (sp_worths_ahead C) := by
  refine fn_pr Fd sc_worths_ahead (fun u => by first | rfl | (cases u <;> rfl)) (fun _ => False) (fun _ _ h => h.elim) (fun X u E hX hp hE => ?_)
  obtain ⟨cdv, A, outer, s, H, E', rfl, hr⟩ := hX
  refine PSs.nox ?_
  have nd := (sc_worths_ahead).nd
  replace hr : Room 7 (cxOf CX0 P w K mg base N_worths_ahead "worths_ahead" (defScope st_worths_ahead) f cdv A outer s H E').nox.A := hr
  obtain ⟨fl, gs⟩ := u
  have hp : AhP fl gs := hp
  have hn := hp.n
  have hg := hp.gl
  refine js_seq (js_asgFM (i := 2) (j := 3) (Ra := IsU fl.length) (Rm := LsOf (IsL (IsQ C)) []) (by decide) (ps_asg (pe_tup (pa_cons (jbB call_len Z.len boot_len (ja_cons (jv 0 (R := IsQM C fl)) ja_nil) rc_len) (pa_cons (jm_ls [] (jm_lst (pe_lst ja_nil))) pa_nil))) (pg_tup rfl (pgs_cons (gN 2 nd) (pgs_cons (gN 3 nd) pgs_nil))))) ?_
  refine js_seq (G1 := [.fz (IsQM C fl), .fz (IsQM C gs), .fz (IsU fl.length), .mt (LsOf (IsL (IsQ C)) ((enumN fl).map fun p => lapRow p.2 p.1 gs)), .un, .un, .un, .un, .un, .un, .un, .un, .un]) (js_for PassesOwn.never rfl (ji_enumN (Rx := IsL (IsQ C)) (xs := fl) (pi_enum rfl Z.enum (ja_cons (jv 0) ja_nil))) (fun x => jg2 4 5 nd)
    (fun i G => G = [.fz (IsQM C fl), .fz (IsQM C gs), .fz (IsU fl.length), .mt (LsOf (IsL (IsQ C)) (((enumN fl).take i).map fun p => lapRow p.2 p.1 gs)), .un, .un, .un, .un, .un, .un, .un, .un, .un]) rfl ?_ (fun G1 h => by rwa [List.take_length] at h)) ?_
  · rintro i ⟨n, r⟩ G1 hi rfl
    obtain ⟨e1, e2⟩ := enumN_get hi
    have e1 : n = i := e1
    have e2 : fl[i]? = some r := e2
    have hm := List.mem_of_getElem? e2
    have hil := (List.getElem?_eq_some_iff.mp e2).1
    have hrl := hp.rr r hm
    have hnl : n < fl.length := by omega
    refine js_seq (jslc (i := 6) (Ry := IsQ C) (fun one => 0 - one) [("one", 12)] nd (ji_list (Rx := IsQ C) (xs := r) (pi_list (jv 5))) (fun s H C' cl fp x => jg1 12 nd) (fun s H C' cl fp x hx => joQ osub (hr.mono (by decide)) (jmk1 mk (hr.mono (by decide)) (ja_cons jI ja_nil)) (jv 12) (hp.f1 r hm x hx)) (line_of (m := 1000) (by omega))) ?_
    refine js_seq (js_setitem (i := 6) (k := (n : Int)) (j := n) (R := IsQ C (sumR r)) (Rm' := LsOf (IsQ C) ((r.map fun one => 0 - one).set n (sumR r))) (ti := fun _ _ _ => True) (ps_asg (jc k_total_of (hr.mono (by decide)) r (ja_cons (jv 5) ja_nil) (hp.fl r hm)) (pg_sub (pv 6) (jv 4 (R := IsU n)) set_list)) rfl (fun vs F a => gw_ixN ?_) (fun vs v F a b => LsOf.up (paired_set a.here b n))) ?_
    · rw [← a.len, List.length_map]
      omega
    refine js_frz (i := 6) rfl ?_
    refine js_seq (js_append (i := 3) (R := IsL (IsQ C) (lapRow r n gs)) (Rm' := LsOf (IsL (IsQ C)) (((enumN fl).take (i + 1)).map fun p => lapRow p.2 p.1 gs)) (ps_expr (pe_bm PySem.F.plainAttrs_list PySem.F.slot_list_append PySem.F.type_list_append mt_append (pv 3) (pa_cons (je_m (jm_op (pe_op op_cat (jv 6) (je_m (jlc (Ry := IsQ C) (fun g : List Rat => g[n]!) [("goal", 11)] nd (ji_list (Rx := IsL (IsQ C)) (xs := gs) (pi_list (jv 1))) (fun s H C' cl fp x => jg1 11 nd) (fun s H C' cl fp x hx => je_op (pe_ix ix_list (jv 11 (R := IsL (IsQ C) x)) (jv 4 (R := IsU n)) (fun _ _ => rfl)) (rop_ixB (by rw [hp.gr x hx]; exact hnl))) (line_of (m := 1000) (by omega))))) (rop_cat ?_))) pa_nil))) rfl (fun vs v F a b => ?_) (fun vs F a => ?_)) ?_
    · rw [List.length_set, List.length_map, List.length_map]
      omega
    · rw [map_take hi]
      exact (a.here.snoc b).up
    · rw [← a.len, List.length_map, List.length_take, enumN_len]
      exact line_of (m := 1000) (by omega)
    · exact js_weak (le_wipe _ [4, 5, 6]) (js_nil rfl)
  rw [← lapRows_enum]
  refine js_frz (i := 3) rfl ?_
  refine jz_enter (R := IsQ C) (n := gs.length) (l0 := List.replicate fl.length (0 : Rat)) (i := 7) hE (plain_of (by repeat (first | exact plain_nil | refine plain_fz ?_ | refine plain_un ?_))) (js_lcM (List.replicate fl.length (0 : Rat)) [("goal", 11)] nd (ji_list (Rx := IsL (IsQ C)) (xs := gs) (pi_list (jv 1))) (fun s H C' cl fp x => jg1 11 nd) (fun s H C' cl fp x hx => ?_) (line_of (m := 1000) (by omega))) (fun qs hqs => ?_)
  · refine jm_conv (jm_op (pe_op op_rep (je_m (jm_ls [(0 : Rat)] (jm_lst (pe_lst (ja_cons (je_eq (jmk1 mk (hr.mono (by decide)) (ja_cons jI ja_nil)) rfl) ja_nil))))) (jv 2 (R := IsU fl.length))) (rop_rep (n := fl.length) ?_ ?_)) (fun v F q => ?_)
    · show 1 * fl.length ≤ 100000
      omega
    · omega
    · have e : (List.replicate fl.length [(0 : Rat)]).flatten = List.replicate fl.length 0 := by
        generalize fl.length = n
        induction n with
        | zero => rfl
        | succ n ih => rw [List.replicate_succ, List.flatten_cons, ih]; rfl
      rw [← e]
      exact q
  have hsol := hp.sol
  have hsr := hp.sr
  have hsl := hp.sl
  have hah : aheadsR fl gs = (List.range qs.length).map fun k => (steps_ofR (lapRows fl gs)).foldl (fun l row => l.set (headQ row) (row[fl.length + k]!)) (List.replicate fl.length 0) := by
    rw [hqs]
    rfl
  show PSs _ _ (tz E _ _ _ (Rn (IsQM C (aheadsR fl gs))))
  rw [hah]
  have pB : Plain [.fz (IsQM C fl), .fz (IsQM C gs), .fz (IsU fl.length), .fz (IsQM C (lapRows fl gs)), .un, .un, .un, .fz (IsL (fun a => IsC (.ref a)) qs), .un, .un, .un, .un, .un] := plain_of (by repeat (first | exact plain_nil | refine plain_fz ?_ | refine plain_un ?_))
  refine jz_cons (ι := Unit) (fun _ => [.fz (IsQM C fl), .fz (IsQM C gs), .fz (IsU fl.length), .fz (IsQM C (lapRows fl gs)), .un, .un, .un, .fz (IsL (fun a => IsC (.ref a)) qs), .un, .un, .un, .un, .un]) (fun _ => Mm (IsQ C) E qs (fun k => (steps_ofR (lapRows fl gs)).foldl (fun l row => l.set (headQ row) (row[fl.length + k]!)) (List.replicate fl.length 0))) (jz_N (jz_for (Rx := IsL (IsQ C)) (xs := steps_ofR (lapRows fl gs)) PassesOwn.never rfl (fun E' _ => ji_list (pi_list (jc k_steps_of (hr.mono (by decide)) (lapRows fl gs) (ja_cons (jv 3) ja_nil) hsol))) (fun E' x => jg1 6 nd) (fun _ G => G = [.fz (IsQM C fl), .fz (IsQM C gs), .fz (IsU fl.length), .fz (IsQM C (lapRows fl gs)), .un, .un, .un, .fz (IsL (fun a => IsC (.ref a)) qs), .un, .un, .un, .un, .un]) (fun i G h => by rw [h]; exact pB) (fun x G h k s hs => ?_) (fun i => Mm (IsQ C) E qs (fun k => ((steps_ofR (lapRows fl gs)).take i).foldl (fun l row => l.set (headQ row) (row[fl.length + k]!)) (List.replicate fl.length 0))) (fun i => mm_stb) rfl ?_) (fun F0 σ H ⟨G2, e, z⟩ => ⟨(), by
      rw [e, List.take_length] at z
      exact z⟩)) (fun _ => ?_)
  · by_cases q : k = 6
    · subst q
      rw [List.getElem?_set_self (by have := (List.getElem?_eq_some_iff.mp hs).1; simpa using this)] at hs
      cases hs
      exact .inr ⟨_, rfl⟩
    · rw [List.getElem?_set_ne (Ne.symm q)] at hs
      exact h k s hs
  · rintro i row G1 hi rfl
    have hrm := List.mem_of_getElem? hi
    obtain ⟨hlen, hhd⟩ := hsr row hrm
    have pB1 : Plain [.fz (IsQM C fl), .fz (IsQM C gs), .fz (IsU fl.length), .fz (IsQM C (lapRows fl gs)), .un, .un, .fz (IsL (IsQ C) row), .fz (IsL (fun a => IsC (.ref a)) qs), .un, .fz (IsU (headQ row)), .un, .un, .un] := plain_of (by repeat (first | exact plain_nil | refine plain_fz ?_ | refine plain_un ?_))
    have hho : headOf (row.map fun q => q.num) < (row.map fun q => q.num).length := by
      rw [List.length_map]
      have h : headOf (row.map fun q => q.num) < fl.length := hhd
      omega
    generalize hlf : (fun k => ((steps_ofR (lapRows fl gs)).take i).foldl (fun l row => l.set (headQ row) (row[fl.length + k]!)) (List.replicate fl.length (0 : Rat))) = lf
    have hlfl : ∀ k, (lf k).length = fl.length := fun k => by
      rw [← hlf]
      exact foldl_set_len.trans (List.length_replicate)
    refine jz_cons (ι := Unit) (fun _ => [.fz (IsQM C fl), .fz (IsQM C gs), .fz (IsU fl.length), .fz (IsQM C (lapRows fl gs)), .un, .un, .fz (IsL (IsQ C) row), .fz (IsL (fun a => IsC (.ref a)) qs), .un, .fz (IsU (headQ row)), .un, .un, .un]) (fun _ => Mm (IsQ C) E qs lf) (jz_N (jz_lift mm_stb pB1 (fun E' _ => js_N (js_set (R := IsU (headQ row)) (ps_set (i := 9) nd rfl (.inl rfl) (jc k_head_of (hr.mono (by decide)) (row.map fun q => q.num) (ja_cons (je_m (jlc (Ry := IsI) (fun q : Rat => q.num) [("number", 8)] nd (ji_list (Rx := IsQ C) (xs := row) (pi_list (jv 6))) (fun s H C' cl fp x => jg1 8 nd) (fun s H C' cl fp x hx => jprop ptop (hr.mono (by decide)) x (jv 8 (R := IsQ C x)) rfl trivial rfl) (line_of (m := 1000) (by omega)))) ja_nil) hho))) (fun G' h => h))) (fun F0 σ H z => ⟨(), z⟩)) (fun _ => ?_)
    refine jz_one (jz_M (M' := Mm (IsQ C) E qs (fun k => if k < 0 then (lf k).set (headQ row) (row[fl.length + k]!) else lf k)) (jz_N (N := fun F0 σ H => ∃ G2, (∃ s8 s10, plS s8 ∧ plS s10 ∧ G2 = [.fz (IsQM C fl), .fz (IsQM C gs), .fz (IsU fl.length), .fz (IsQM C (lapRows fl gs)), .un, .un, .fz (IsL (IsQ C) row), .fz (IsL (fun a => IsC (.ref a)) qs), s8, .fz (IsU (headQ row)), s10, .un, .un]) ∧ Zt E G2 (Mm (IsQ C) E qs (fun k => if k < (qs.zip (row.drop fl.length)).length then (lf k).set (headQ row) (row[fl.length + k]!) else lf k)) F0 σ H) ?h1 ?h2) (fun F H m => m.congr fun k _ => by rw [if_neg (by omega)]))
    case h1 =>
      refine jz_for (Rx := fun q : Addr × Rat => IsTp [IsC (.ref q.1), IsQ C q.2]) (xs := qs.zip (row.drop fl.length)) PassesOwn.never rfl (fun E' _ => ?_) (fun E' x => jg2 10 8 nd) (fun _ G => ∃ s8 s10, plS s8 ∧ plS s10 ∧ G = [.fz (IsQM C fl), .fz (IsQM C gs), .fz (IsU fl.length), .fz (IsQM C (lapRows fl gs)), .un, .un, .fz (IsL (IsQ C) row), .fz (IsL (fun a => IsC (.ref a)) qs), s8, .fz (IsU (headQ row)), s10, .un, .un]) (fun j G ⟨s8, s10, h1, h2, e⟩ => ?_) (fun x G h => plain_set (plain_set h)) (fun j => Mm (IsQ C) E qs (fun k => if k < j then (lf k).set (headQ row) (row[fl.length + k]!) else lf k)) (fun i => mm_stb) ⟨_, _, .inl rfl, .inl rfl, rfl⟩ ?_
      · exact ji_zip (Rx := fun a => IsC (.ref a)) (Ry := IsQ C) (xs := qs) (ys := row.drop fl.length) (pi_zip rfl Z.zip (ja_cons (jv 7) (ja_cons (je_m (jm_slice (pe_slice sl_list (jv 6 (R := IsL (IsQ C) row)) (jo_some (jv 2 (R := IsU fl.length))) jo_none) (cut_from _ fl.length row rfl).symm)) ja_nil)))
      · subst e
        exact plain_of (plain_fz (plain_fz (plain_fz (plain_fz (plain_un (plain_un (plain_fz (plain_fz (plain_s h1 (plain_fz (plain_s h2 (plain_un (plain_un plain_nil)))))))))))))
      · rintro j ⟨a, x⟩ G1 hj ⟨s8, s10, h1, h2, rfl⟩
        obtain ⟨q1, q2⟩ := List.getElem?_zip_eq_some.mp hj
        rw [List.getElem?_drop] at q2
        have hx : row[fl.length + j]! = x := by
          obtain ⟨hl, e⟩ := List.getElem?_eq_some_iff.mp q2
          rw [getElem!_pos row _ hl, e]
        have pB2 : Plain [.fz (IsQM C fl), .fz (IsQM C gs), .fz (IsU fl.length), .fz (IsQM C (lapRows fl gs)), .un, .un, .fz (IsL (IsQ C) row), .fz (IsL (fun a => IsC (.ref a)) qs), .fz (IsQ C x), .fz (IsU (headQ row)), .fz (IsC (.ref a)), .un, .un] := plain_of (by repeat (first | exact plain_nil | refine plain_fz ?_ | refine plain_un ?_))
        refine jz_one (jz_N (jz_poke (i := 10) (j := j) (hd := headQ row) (q := a) (x := x) rfl pB2 q1 ?_ (fun E' _ => ps_asg (jv 8) (pg_sub (pv 10) (jv 9) set_list))) (fun F0 σ H z => ⟨_, ⟨_, _, .inr ⟨_, rfl⟩, .inr ⟨_, rfl⟩, rfl⟩, z.imp fun F H m => m.congr fun k hk => ?_⟩))
        · rw [if_neg (by omega), hlfl]
          exact hhd
        · by_cases e : k = j
          · subst e
            rw [if_pos rfl, if_neg (by omega), if_pos (by omega), hx]
          · rw [if_neg e]
            by_cases e2 : k < j
            · rw [if_pos e2, if_pos (by omega)]
            · rw [if_neg e2, if_neg (by omega)]
    case h2 =>
      rintro F0 σ H ⟨G2, ⟨s8, s10, _, _, rfl⟩, z⟩
      refine ⟨_, rfl, (z.wipe [6, 8, 9, 10]).imp fun F H m => m.congr fun k hk => ?_⟩
      rw [foldl_take hi, ← hlf, List.length_zip, List.length_drop]
      rw [if_pos (by omega)]
  · refine jz_one (jz_ret (pv 7) rfl)
end
end Gw
set_option maxHeartbeats 4000000
namespace Gw
open PySem PySem.Spec PyProof.Rows L2
theorem enumN_map {α β : Type} [Inhabited α] (xs : List α) (f : Nat × α → β) : (enumN xs).map f = (List.range xs.length).map fun i => f (i, xs[i]!) := by
  apply List.ext_getElem
  · simp [enumN_len]
  · intro i h1 h2
    have hi : i < xs.length := by simpa using h2
    simp only [List.getElem_map, List.getElem_range]
    have h3 : i < (enumN xs).length := by rw [enumN_len]; exact hi
    obtain ⟨a1, a2⟩ := enumN_get (List.getElem?_eq_getElem h3)
    rw [List.getElem?_eq_getElem hi] at a2
    congr 1
    refine Prod.ext a1 ?_
    show ((enumN xs)[i]).2 = xs[i]!
    rw [getElem!_pos xs i hi]
    exact (Option.some.inj a2).symm
theorem b2q {a b : Nat} : (((if decide ((a : Int) = (b : Int)) = true then (1 : Int) else 0) : Int) : Rat) = if a = b then 1 else 0 := by
  by_cases h : a = b
  · rw [if_pos h, if_pos (by rw [h]; simp)]
    rfl
  · rw [if_neg h, if_neg (by simpa using fun e => h (by omega))]
    rfl
def b01 (b : Prop) [Decidable b] : Rat := if b then 1 else 0
/-- what table_of_standings asks -/
structure TbP (ws : List Rat) (ss : List St3) (flows : List (List Rat)) : Prop where
  n : ws.length ≤ 100
  sl : ss.length ≤ 100
  lt : ∀ s ∈ ss, s.1 < ws.length
  fT : FitsL 0 ws
  fS : ∀ x ∈ ws, FitsO x (sumR ws)
  f1 : ∀ s ∈ ss, Fits ws[s.1]! s.2.1
  f2 : ∀ s ∈ ss, Fits (ws[s.1]! * s.2.1) s.2.2
  f3 : ∀ x ∈ sharesR ws, ∀ i : Int, i = 0 ∨ i = 1 → Fits x (i : Rat)
  f4 : ∀ s ∈ ss, ∀ x ∈ sharesR ws, ∀ i : Int, i = 0 ∨ i = 1 → Fits (ws[s.1]! * s.2.1 * s.2.2) ((i : Rat) - x)
  ah : AhP flows (goalsR ws ss)
  f5 : ∀ p q : Nat, p < ws.length → q < ws.length → ∀ x ∈ ((goalsR ws ss)[p]!).zip ((aheadsR flows (goalsR ws ss))[q]!), Fits x.1 x.2
  f6 : ∀ p q : Nat, p < ws.length → q < ws.length → FitsL 0 ((((goalsR ws ss)[p]!).zip ((aheadsR flows (goalsR ws ss))[q]!)).map fun x => x.1 * x.2)
  f7 : ∀ p q : Nat, p < ws.length → q < ws.length → FitsO (sumR ((((goalsR ws ss)[p]!).zip ((aheadsR flows (goalsR ws ss))[q]!)).map fun x => x.1 * x.2)) (sumR ws)
  f8 : ∀ p q : Nat, p < ws.length → q < ws.length → Fits (bothR ws (goalsR ws ss)[p]! (aheadsR flows (goalsR ws ss))[q]!) ((2 : Int) : Rat)
  f9 : ∀ x ∈ sharesR ws, ∀ y ∈ sharesR ws, ∀ i : Int, i = 0 ∨ i = 1 → Fits x ((i : Rat) - y)
  f10 : ∀ p q : Nat, p < ws.length → q < ws.length → ∀ i : Int, i = 0 ∨ i = 1 → Fits (bothR ws (goalsR ws ss)[p]! (aheadsR flows (goalsR ws ss))[q]! * ((2 : Int) : Rat)) ((sharesR ws)[p]! * ((i : Rat) - (sharesR ws)[q]!))
theorem goalsR_enum (ws : List Rat) (ss : List St3) : goalsR ws ss = (enumN (sharesR ws)).map fun p => goalOf ws ss p.1 p.2 := by
  unfold goalsR enumN
  rw [List.map_map]
  rfl
theorem sharesR_len (ws : List Rat) : (sharesR ws).length = ws.length := by simp [sharesR]
theorem goalsR_len (ws : List Rat) (ss : List St3) : (goalsR ws ss).length = ws.length := by rw [goalsR_enum, List.length_map, enumN_len, sharesR_len]
theorem aheadsR_len (flows goals : List (List Rat)) : (aheadsR flows goals).length = goals.length := by simp [aheadsR]
def cellE (ws : List Rat) (goals : List (List Rat)) (p q : Nat × Rat) (ahead : List Rat) : Rat := bothR ws goals[p.1]! ahead * ((2 : Int) : Rat) - p.2 * ((if p.1 = q.1 then (1 : Rat) else 0) - q.2)
section
variable {P : Program} {w : World} {K : PySem.W.Frag} {mg : Str → Option Value} {base : Heap} {C : Addr}
abbrev sp_table_of_standings (C : Addr) : Sp := Pr (ι := List Rat × List Sd × List (List Rat)) (fun w => [IsL (IsQ C) w.1, IsL (IsSd C) w.2.1, IsQM C w.2.2]) (fun w => TbP w.1 w.2.1 w.2.2) (fun w => IsQM C (tableR w.1 w.2.1 w.2.2))
theorem i01 (b : Bool) : (if b = true then (1 : Int) else 0) = 0 ∨ (if b = true then (1 : Int) else 0) = 1 := by cases b <;> simp
abbrev Kn_table_of_standings (P : Program) (w : World) (K : PySem.W.Frag) (mg : Str → Option Value) (base : Heap) (C : Addr) : Prop := Kn P w K mg base "table_of_standings" 9 ["weights", "standings", "flows"] (sp_table_of_standings C)
theorem ok_table_of_standings (Z : Glo K mg C) (omul : Opr P w K mg base C .Mult 6 (fun w => Fits w.1 w.2) (· * ·)) (osub : Opr P w K mg base C .Sub 6 (fun w => Fits w.1 w.2) (· - ·)) (orsub : OprR P w K mg base C .Sub 6 (fun w => Fits w.1 w.2) (fun q r => r - q)) (mover : MethK P w K mg base C "over" 6 ["self", "other"] (sp_Rover C)) (k_total_of : Kn_total_of P w K mg base C) (k_worths_ahead : Kn_worths_ahead P w K mg base C) {f : Addr} {fd : FuncData} (Fd : FnP K "table_of_standings" st_table_of_standings f fd) : FnOk P w K mg base CX0 9 f fd ["weights", "standings", "flows"] (sp_table_of_standings C) := by
  refine fn_pr Fd sc_table_of_standings (fun u => by first | rfl | (cases u <;> rfl)) (fun _ => False) (fun _ _ h => h.elim) (fun X u E hX hp hE => ?_)
  obtain ⟨cdv, A, outer, s, H, E', rfl, hr⟩ := hX
  refine PSs.nox ?_
  have nd := (sc_table_of_standings).nd
  replace hr : Room 8 (cxOf CX0 P w K mg base N_table_of_standings "table_of_standings" (defScope st_table_of_standings) f cdv A outer s H E').nox.A := hr
  obtain ⟨ws, ss, fl⟩ := u
  have hp : TbP ws ss fl := hp
  have hn := hp.n
  have hsl := hp.sl
  have hshl := sharesR_len ws
  have hgl := goalsR_len ws ss
  have hal := aheadsR_len fl (goalsR ws ss)
  refine js_seq (js_set (R := IsQ C (sumR ws)) (ps_set (i := 3) nd rfl (.inr rfl) (jc k_total_of (hr.mono (by decide)) ws (ja_cons (jv 0) ja_nil) hp.fT))) ?_
  refine js_seq (jslc (i := 4) (Ry := IsQ C) (fun x => x / sumR ws) [("weight", 16)] nd (ji_list (Rx := IsQ C) (xs := ws) (pi_list (jv 0))) (fun s H C' cl fp x => jg1 16 nd) (fun s H C' cl fp x hx => jmeth mover (hr.mono (by decide)) (x, sumR ws) (jv 16) (ja_cons (je_conv (jv 3) isQ_nm) ja_nil) rfl (hp.fS x hx)) (line_of (m := 1000) (by omega))) ?_
  refine js_frz (i := 4) rfl ?_
  refine js_seq (js_setM (Rm := LsOf (IsL (IsQ C)) []) (ps_set (i := 5) nd rfl (.inl rfl) (jm_ls [] (jm_lst (pe_lst ja_nil))))) ?_
  refine js_cons (N1 := fun G => G = [.fz (IsL (IsQ C) ws), .fz (IsL (IsSd C) ss), .fz (IsQM C fl), .fz (IsQ C (sumR ws)), .fz (IsL (IsQ C) (sharesR ws)), .mt (LsOf (IsL (IsQ C)) ((enumN (sharesR ws)).map fun p => goalOf ws ss p.1 p.2)), .un, .un, .un, .un, .un, .un, .un, .un, .un, .un, .un, .un]) (js_for PassesOwn.never rfl (ji_enumN (Rx := IsQ C) (xs := sharesR ws) (pi_enum rfl Z.enum (ja_cons (jv 4) ja_nil))) (fun x => jg2 6 7 nd)
    (fun i G => G = [.fz (IsL (IsQ C) ws), .fz (IsL (IsSd C) ss), .fz (IsQM C fl), .fz (IsQ C (sumR ws)), .fz (IsL (IsQ C) (sharesR ws)), .mt (LsOf (IsL (IsQ C)) (((enumN (sharesR ws)).take i).map fun p => goalOf ws ss p.1 p.2)), .un, .un, .un, .un, .un, .un, .un, .un, .un, .un, .un, .un]) rfl ?_ (fun G1 h => by rwa [List.take_length] at h)) ?_
  · rintro i p G1 hi rfl
    have hpm := List.mem_of_getElem? (mem_enumN (List.mem_of_getElem? hi)).2
    refine js_seq (js_append (i := 5) (R := IsL (IsQ C) (goalOf ws ss p.1 p.2)) (Rm' := LsOf (IsL (IsQ C)) (((enumN (sharesR ws)).take (i + 1)).map fun p => goalOf ws ss p.1 p.2)) (ps_expr (pe_bm PySem.F.plainAttrs_list PySem.F.slot_list_append PySem.F.type_list_append mt_append (pv 5) (pa_cons (je_m (jlc (Ry := IsQ C) (fun one : Sd => ws[one.1]! * one.2.1 * one.2.2 * ((if one.1 = p.1 then (1 : Rat) else 0) - p.2)) [("one", 15)] nd (ji_list (Rx := IsSd C) (xs := ss) (pi_list (jv 1))) (fun s H C' cl fp x => jg1 15 nd) (fun s H C' cl fp one ho => ?_) (line_of (m := 1000) (by omega)))) pa_nil))) rfl (fun vs v F a b => ?_) (fun vs F a => ?_)) ?_
    · have e : (((if decide ((one.1 : Int) = (p.1 : Int)) = true then (1 : Int) else 0) : Int) : Rat) = if one.1 = p.1 then 1 else 0 := b2q
      refine joQ omul (hr.mono (by decide)) (joQ omul (hr.mono (by decide)) (joQ omul (hr.mono (by decide)) (je_op (pe_ix ix_list (jv 0 (R := IsL (IsQ C) ws)) (je_op (pe_ix ix_tup (jv 15 (R := IsSd C one)) jI (fun _ _ => rfl)) (rop_ixT (j := 0) rfl)) (fun _ _ => rfl)) (rop_ixB (hp.lt one ho))) (je_op (pe_ix ix_tup (jv 15 (R := IsSd C one)) jI (fun _ _ => rfl)) (rop_ixT (j := 1) rfl)) (hp.f1 one ho)) (je_op (pe_ix ix_tup (jv 15 (R := IsSd C one)) jI (fun _ _ => rfl)) (rop_ixT (j := 2) rfl)) (hp.f2 one ho)) (joIQ_sub orsub (hr.mono (by decide)) (jbT call_int1 Z.int boot_int (ja_cons (je_op (pe_cmpR op_eq (je_op (pe_ix ix_tup (jv 15 (R := IsSd C one)) jI (fun _ _ => rfl)) (rop_ixT (j := 0) rfl)) (jv 6 (R := IsU p.1)) (nomark _)) rop_eqI) ja_nil) rc_int) (jv 7 (R := IsQ C p.2)) (hp.f3 _ hpm _ (i01 _)) (by rw [e])) ?_
      rw [← e]
      exact hp.f4 one ho _ hpm _ (i01 _)
    · rw [map_take hi]
      exact (a.here.snoc b).up
    · rw [← a.len, List.length_map, List.length_take, enumN_len]
      exact line_of (m := 1000) (by omega)
    · exact js_weak (le_wipe _ [6, 7]) (js_nil rfl)
  rintro _ rfl
  rw [← goalsR_enum]
  refine js_frz (i := 5) rfl ?_
  refine js_seq (js_parFM (i := 8) (j := 9) (Ra := IsQM C (aheadsR fl (goalsR ws ss))) (Rm := LsOf (IsL (IsQ C)) []) (by decide) (ps_par (i := 8) (j := 9) rfl nd rfl rfl (by decide) rfl rfl (pa_cons (jc k_worths_ahead hr (fl, goalsR ws ss) (ja_cons (jv 2) (ja_cons (jv 5) ja_nil)) hp.ah) (pa_cons (jm_ls [] (jm_lst (pe_lst ja_nil))) pa_nil)) rfl)) ?_
  have hT : tableR ws ss fl = ((enumN (sharesR ws)).map fun p => (enumN (aheadsR fl (goalsR ws ss))).map fun q => cellE ws (goalsR ws ss) p (q.1, (sharesR ws)[q.1]!) q.2) := by
    rw [enumN_map]
    unfold tableR
    rw [hshl]
    refine List.map_congr_left fun p hp' => ?_
    rw [enumN_map, hal, hgl]
    rfl
  show PSs _ _ (tS E _ (Rn (IsQM C (tableR ws ss fl))) _)
  rw [hT]
  refine js_cons (N1 := fun G => G = [.fz (IsL (IsQ C) ws), .fz (IsL (IsSd C) ss), .fz (IsQM C fl), .fz (IsQ C (sumR ws)), .fz (IsL (IsQ C) (sharesR ws)), .fz (IsQM C (goalsR ws ss)), .un, .un, .fz (IsQM C (aheadsR fl (goalsR ws ss))), .mt (LsOf (IsL (IsQ C)) ((enumN (sharesR ws)).map fun p => (enumN (aheadsR fl (goalsR ws ss))).map fun q => cellE ws (goalsR ws ss) p (q.1, (sharesR ws)[q.1]!) q.2)), .un, .un, .un, .un, .un, .un, .un, .un]) (js_for PassesOwn.never rfl (ji_enumN (Rx := IsQ C) (xs := sharesR ws) (pi_enum rfl Z.enum (ja_cons (jv 4) ja_nil))) (fun x => jg2 6 7 nd)
    (fun i G => G = [.fz (IsL (IsQ C) ws), .fz (IsL (IsSd C) ss), .fz (IsQM C fl), .fz (IsQ C (sumR ws)), .fz (IsL (IsQ C) (sharesR ws)), .fz (IsQM C (goalsR ws ss)), .un, .un, .fz (IsQM C (aheadsR fl (goalsR ws ss))), .mt (LsOf (IsL (IsQ C)) (((enumN (sharesR ws)).take i).map fun p => (enumN (aheadsR fl (goalsR ws ss))).map fun q => cellE ws (goalsR ws ss) p (q.1, (sharesR ws)[q.1]!) q.2)), .un, .un, .un, .un, .un, .un, .un, .un]) rfl ?_ (fun G1 h => by rwa [List.take_length] at h)) ?_
  · rintro i p G1 hi rfl
    obtain ⟨pl, pe⟩ := mem_enumN (List.mem_of_getElem? hi)
    have hpm := List.mem_of_getElem? pe
    have hp1 : p.1 < ws.length := by omega
    have hp2 : (sharesR ws)[p.1]! = p.2 := by
      obtain ⟨hl, e⟩ := List.getElem?_eq_some_iff.mp pe
      rw [getElem!_pos (sharesR ws) p.1 hl, e]
    refine js_seq (js_setM (Rm := LsOf (IsQ C) []) (ps_set (i := 10) nd rfl (.inl rfl) (jm_ls [] (jm_lst (pe_lst ja_nil))))) ?_
    refine js_cons (N1 := fun G => G = [.fz (IsL (IsQ C) ws), .fz (IsL (IsSd C) ss), .fz (IsQM C fl), .fz (IsQ C (sumR ws)), .fz (IsL (IsQ C) (sharesR ws)), .fz (IsQM C (goalsR ws ss)), .fz (IsU p.1), .fz (IsQ C p.2), .fz (IsQM C (aheadsR fl (goalsR ws ss))), .mt (LsOf (IsL (IsQ C)) (((enumN (sharesR ws)).take i).map fun p => (enumN (aheadsR fl (goalsR ws ss))).map fun q => cellE ws (goalsR ws ss) p (q.1, (sharesR ws)[q.1]!) q.2)), .mt (LsOf (IsQ C) ((enumN (aheadsR fl (goalsR ws ss))).map fun q => cellE ws (goalsR ws ss) p (q.1, (sharesR ws)[q.1]!) q.2)), .un, .un, .un, .un, .un, .un, .un]) (js_for PassesOwn.never rfl (ji_enumN (Rx := IsL (IsQ C)) (xs := aheadsR fl (goalsR ws ss)) (pi_enum rfl Z.enum (ja_cons (jv 8) ja_nil))) (fun x => jg2 11 12 nd)
      (fun j G => G = [.fz (IsL (IsQ C) ws), .fz (IsL (IsSd C) ss), .fz (IsQM C fl), .fz (IsQ C (sumR ws)), .fz (IsL (IsQ C) (sharesR ws)), .fz (IsQM C (goalsR ws ss)), .fz (IsU p.1), .fz (IsQ C p.2), .fz (IsQM C (aheadsR fl (goalsR ws ss))), .mt (LsOf (IsL (IsQ C)) (((enumN (sharesR ws)).take i).map fun p => (enumN (aheadsR fl (goalsR ws ss))).map fun q => cellE ws (goalsR ws ss) p (q.1, (sharesR ws)[q.1]!) q.2)), .mt (LsOf (IsQ C) (((enumN (aheadsR fl (goalsR ws ss))).take j).map fun q => cellE ws (goalsR ws ss) p (q.1, (sharesR ws)[q.1]!) q.2)), .un, .un, .un, .un, .un, .un, .un]) rfl ?_ (fun G1 h => by rwa [List.take_length] at h)) ?_
    · rintro j q G1 hj rfl
      obtain ⟨ql, qe⟩ := mem_enumN (List.mem_of_getElem? hj)
      have hq1 : q.1 < ws.length := by omega
      have hq2 : (aheadsR fl (goalsR ws ss))[q.1]! = q.2 := by
        obtain ⟨hl, e⟩ := List.getElem?_eq_some_iff.mp qe
        rw [getElem!_pos (aheadsR fl (goalsR ws ss)) q.1 hl, e]
      have hsm : (sharesR ws)[q.1]! ∈ sharesR ws := get_mem (by omega)
      have h5 := hp.f5 p.1 q.1 hp1 hq1
      have h6 := hp.f6 p.1 q.1 hp1 hq1
      have h7 := hp.f7 p.1 q.1 hp1 hq1
      have h8 := hp.f8 p.1 q.1 hp1 hq1
      have h10 := hp.f10 p.1 q.1 hp1 hq1
      rw [hq2] at h5 h6 h7 h8 h10
      rw [hp2] at h10
      refine js_seq (js_set (R := IsQ C (bothR ws (goalsR ws ss)[p.1]! q.2)) (ps_set (i := 13) nd rfl (.inl rfl) (jmeth mover (hr.mono (by decide)) (sumR ((((goalsR ws ss)[p.1]!).zip q.2).map fun x => x.1 * x.2), sumR ws) (jc k_total_of (hr.mono (by decide)) ((((goalsR ws ss)[p.1]!).zip q.2).map fun x => x.1 * x.2) (ja_cons (je_m (jlc (Ry := IsQ C) (fun x : Rat × Rat => x.1 * x.2) [("goal", 14), ("worth", 17)] nd (ji_zip (Rx := IsQ C) (Ry := IsQ C) (xs := (goalsR ws ss)[p.1]!) (ys := q.2) (pi_zip rfl Z.zip (ja_cons (je_op (pe_ix ix_list (jv 5 (R := IsQM C (goalsR ws ss))) (jv 6 (R := IsU p.1)) (fun _ _ => rfl)) (rop_ixB (by omega))) (ja_cons (jv 12) ja_nil)))) (fun s H C' cl fp x => jg2 14 17 nd) (fun s H C' cl fp x hx => joQ omul (hr.mono (by decide)) (jv 14) (jv 17) (h5 x hx)) (line_of (m := 1000) ?_))) ja_nil) h6) (ja_cons (je_conv (jv 3) isQ_nm) ja_nil) rfl h7))) ?_
      · have hg := hp.ah.gr _ (get_mem (xs := goalsR ws ss) (i := p.1) (by omega))
        have hnf := hp.ah.n
        rw [List.length_zip]
        omega
      have e : (((if decide ((p.1 : Int) = (q.1 : Int)) = true then (1 : Int) else 0) : Int) : Rat) = if p.1 = q.1 then 1 else 0 := b2q
      refine js_seq (js_append (i := 10) (R := IsQ C (cellE ws (goalsR ws ss) p (q.1, (sharesR ws)[q.1]!) q.2)) (Rm' := LsOf (IsQ C) (((enumN (aheadsR fl (goalsR ws ss))).take (j + 1)).map fun q => cellE ws (goalsR ws ss) p (q.1, (sharesR ws)[q.1]!) q.2)) (ps_expr (pe_bm PySem.F.plainAttrs_list PySem.F.slot_list_append PySem.F.type_list_append mt_append (pv 10) (pa_cons (joQ osub (hr.mono (by decide)) (joQI omul (hr.mono (by decide)) (jv 13) jI h8) (joQ omul (hr.mono (by decide)) (jv 7 (R := IsQ C p.2)) (joIQ_sub orsub (hr.mono (by decide)) (jbT call_int1 Z.int boot_int (ja_cons (je_op (pe_cmpR op_eq (jv 6 (R := IsU p.1)) (jv 11 (R := IsU q.1)) (nomark _)) rop_eqI) ja_nil) rc_int) (je_op (pe_ix ix_list (jv 4 (R := IsL (IsQ C) (sharesR ws))) (jv 11 (R := IsU q.1)) (fun _ _ => rfl)) (rop_ixB (by omega))) (hp.f3 _ hsm _ (i01 _)) (by rw [e])) ?_) ?_) pa_nil))) rfl (fun vs v F a b => ?_) (fun vs F a => ?_)) ?_
      · rw [← e]
        exact hp.f9 _ hpm _ hsm _ (i01 _)
      · rw [← e]
        exact h10 _ (i01 _)
      · rw [map_take hj]
        exact (a.here.snoc b).up
      · rw [← a.len, List.length_map, List.length_take, enumN_len]
        exact line_of (m := 1000) (by omega)
      · exact js_weak (le_wipe _ [11, 12, 13]) (js_nil rfl)
    · rintro _ rfl
      refine js_seq (js_appendM (i := 9) (j := 10) (Rm' := LsOf (IsL (IsQ C)) (((enumN (sharesR ws)).take (i + 1)).map fun p => (enumN (aheadsR fl (goalsR ws ss))).map fun q => cellE ws (goalsR ws ss) p (q.1, (sharesR ws)[q.1]!) q.2)) (ps_expr (pe_bm PySem.F.plainAttrs_list PySem.F.slot_list_append PySem.F.type_list_append mt_append (pv 9) (pa_cons (pv 10) pa_nil))) (by decide) rfl rfl (fun vs v F a b => ?_) (fun vs F a => ?_)) ?_
      · rw [map_take hi]
        exact (a.here.snoc b).up
      · rw [← a.len, List.length_map, List.length_take, enumN_len]
        exact line_of (m := 1000) (by omega)
      · exact js_weak (le_wipe _ [6, 7, 10]) (js_nil rfl)
  · rintro _ rfl
    exact js_one (js_retV (pv 9) rfl)
end
end Gw
set_option maxHeartbeats 4000000
/-! Values that are not known: kinds with an open part. -/
namespace Gw
open PySem PySem.Spec PyProof.Rows L2
/-- R stands when the frozen part grows -/
def Mo (R : V → Hp → Prop) : Prop := ∀ v F F', R v F → Ex F F' → R v F'
theorem Mo.up {R : V → Hp → Prop} (h : Mo R) {v : V} {F : Hp} (r : R v F) : Up R v F := fun F' e => h v F F' r e
theorem mo_I {i : Int} : Mo (IsI i) := fun _ _ _ h _ => h
theorem mo_B {b : Bool} : Mo (IsB b) := fun _ _ _ h _ => h
theorem mo_L {R : List V → Hp → Prop} : Mo (LstOf R) := fun v F F' h e => LstOf.up h F' e
theorem mo_T {R : List V → Hp → Prop} : Mo (TupOf R) := fun v F F' h e => TupOf.up h F' e
theorem mo_Q {C : Addr} {q : Rat} : Mo (IsQ C q) := fun _ _ _ h e => h.mono e
theorem mo_Nm {C : Addr} {q : Rat} : Mo (IsNm C q) := fun _ _ _ h e => h.mono e
theorem mo_som {α : Type} {P : α → Prop} {R : α → V → Hp → Prop} (h : ∀ x, Mo (R x)) : Mo (Som P R) := fun v F F' ⟨x, px, r⟩ e => ⟨x, px, h x v F F' r e⟩
section
variable {X : Cx} {E : En} {G : List Sl} {e a b c : Expr} {R R' Ra Rb Rz : V → Hp → Prop} {pos : Pos} {st : Stmt} {rest : List Stmt} {pp : Option Addr} {α : Type} {P : α → Prop} {Rx : α → V → Hp → Prop}
theorem rop_somR {r : R2} (hm : ∀ x, Mo (Rx x)) (h : ∀ x, P x → ROp pp r Ra (Rx x) Rz) : ROp pp r Ra (Som P Rx) Rz := fun v y F H Q ok u1 u2 k => by
  obtain ⟨x, px, rx⟩ := u2.here
  exact h x px v y F H Q ok u1 ((hm x).up rx) k
theorem rop_somL {r : R2} (hm : ∀ x, Mo (Rx x)) (h : ∀ x, P x → ROp pp r (Rx x) Ra Rz) : ROp pp r (Som P Rx) Ra Rz := fun v y F H Q ok u1 u2 k => by
  obtain ⟨x, px, rx⟩ := u1.here
  exact h x px v y F H Q ok ((hm x).up rx) u2 k
theorem rop_to {r : R2} (h : ROp pp r Ra Rb R) (k : ∀ v F, R v F → Rz v F) : ROp pp r Ra Rb Rz := fun v y F H Q ok u1 u2 q => h v y F H Q ok u1 u2 fun z F' H' g u => q z F' H' g (u.imp fun F w => k z F w)
/-- a slot's list with an open part -/
def SomM {α : Type} (P : α → Prop) (R : α → List V → Hp → Prop) (vs : List V) (F : Hp) : Prop := ∃ x, P x ∧ R x vs F
theorem js_openM {Rm : α → List V → Hp → Prop} {i : Nat} {st : List Stmt} {Rt : V → Hp → Hp → Prop} {N : List Sl → Prop} (h : G[i]? = some (.mt (SomM P Rm))) (hm : ∀ x vs F F', Rm x vs F → Ex F F' → Rm x vs F')
    (k : ∀ x, P x → PSs X st (tS E (G.set i (.mt (Rm x))) Rt N)) : PSs X st (tS E G Rt N) := PSs_imp (PSs_any (ι := { x // P x }) (t := fun q => tS E (G.set i (.mt (Rm q.1))) Rt N) fun q => k q.1 q.2) fun D σ H ⟨F, S, kn, kr⟩ => by
  obtain ⟨p, vs, e1, h1, h2, h3, u⟩ := S.mt i _ h
  obtain ⟨x, px, r⟩ := u.here
  have hl : i < G.length := (List.getElem?_eq_some_iff.mp h).1
  have S2 := S.set_mt (i := i) (R := Rm x) (p := p) (vs := vs) h1 h2 h3 (fun F' e => hm x vs F F' r e) (fun j Sj hj hG hs => S.ap j i Sj _ p hj hG h hs e1)
  have e2 : σ.set i (some (.ref p)) = σ := by
    apply List.ext_getElem?
    intro j
    by_cases hj : j = i
    · subst hj
      rw [List.getElem?_set_self (List.getElem?_eq_some_iff.mp e1).1, e1]
    · rw [List.getElem?_set_ne (Ne.symm hj)]
  rw [e2] at S2
  exact ⟨⟨x, px⟩, F, S2, kn, kr⟩
/-- a test whose answer is not known but fulfils P -/
def tTS (E : En) (G : List Sl) (P : Bool → Prop) : TT := fun σ H Q => ∃ F, Sat E G σ F H ∧ ∀ b F' H', P b → Gr E.pp F H F' H' → Q b H'
variable {Pb : Bool → Prop}
theorem jts_val (p : PT X e (tB (tE E G (Som Pb IsB)))) : PT X e (tTS E G Pb) := PT_imp p fun σ H Q ⟨F, S, k⟩ => ⟨F, S, fun v F' H' g u => by
  obtain ⟨b, pb, r⟩ := u.here
  exact ⟨b, r, k b F' H' pb g⟩⟩
theorem jts_cmp {r : R2} (p : PT X e (tTest (tOp r (tE E G Ra) (tE E G Rb)))) (h : ROp E.pp r Ra Rb (Som Pb IsB)) : PT X e (tTS E G Pb) := PT_imp p fun σ H Q ⟨F, S, k⟩ =>
  ⟨F, S, fun x F1 H1 g1 u1 => ⟨F1, S.gr g1, fun y F2 H2 g2 u2 => h x y F2 H2 _ g2.ok (u1.mono g2.f) u2 fun z F3 H3 g3 u3 => by
    obtain ⟨b, pb, rb⟩ := u3.here
    exact ⟨b, rb, k b F3 H3 pb ((g1.trans g2).trans g3)⟩⟩⟩
theorem jts_not (p : PT X a (tTS E G Pb)) : PT X (.UnaryOp .Not a pos) (tTS E G (fun b => Pb (!b))) := PT_imp (pt_not p) fun σ H Q ⟨F, S, k⟩ => ⟨F, S, fun b F' H' pb g => k (!b) F' H' (by show Pb (!!b); rw [Bool.not_not]; exact pb) g⟩
theorem js_ifS {p q : List Stmt} {Rt : V → Hp → Hp → Prop} {N : List Sl → Prop} (hc : PT X c (tTS E G Pb)) (h1 : Pb true → PSs X p (tS E G Rt N)) (h2 : Pb false → PSs X q (tS E G Rt N)) : PS X (.If c p q pos) (tS E G Rt N) :=
  PS_imp (ps_if hc (PSs_when h1) (PSs_when h2)) fun D σ H ⟨F, S, kn, kr⟩ => ⟨F, S, fun b F1 H1 pb g1 => by
    cases b with
    | true =>
      show (Pb true ∧ tS E G Rt N D σ H1)
      exact ⟨pb, F1, S.gr g1, fun G2 σ2 F2 H2 n2 S2 e2 => kn G2 σ2 F2 H2 n2 S2 (g1.f.trans e2), kr⟩
    | false =>
      show (Pb false ∧ tS E G Rt N D σ H1)
      exact ⟨pb, F1, S.gr g1, fun G2 σ2 F2 H2 n2 S2 e2 => kn G2 σ2 F2 H2 n2 S2 (g1.f.trans e2), kr⟩⟩
theorem je_ifS (hc : PT X c (tTS E G Pb)) (ha : Pb true → PE X a (tE E G R)) (hb : Pb false → PE X b (tE E G R)) : PE X (.IfExp c a b pos) (tE E G R) :=
  PE_imp (pe_ifExp hc (PE_when ha) (PE_when hb)) fun σ H Q ⟨F, S, k⟩ => ⟨F, S, fun b F1 H1 pb g1 => by
    cases b with
    | true =>
      show (Pb true ∧ tE E G R σ H1 Q)
      exact ⟨pb, F1, S.gr g1, fun v F2 H2 g2 u2 => k v F2 H2 (g1.trans g2) u2⟩
    | false =>
      show (Pb false ∧ tE E G R σ H1 Q)
      exact ⟨pb, F1, S.gr g1, fun v F2 H2 g2 u2 => k v F2 H2 (g1.trans g2) u2⟩⟩
/-- what a call with an open argument gives -/
theorem je_openA {Rs Ss : List (V → Hp → Prop)} {r : List V → Hp → VK → Prop} (hm : ∀ x, Mo (Rx x)) (h : ∀ x, P x → RC pp r (Rs ++ Rx x :: Ss) Rz) : RC pp r (Rs ++ Som P Rx :: Ss) Rz := fun vs F H Q ok ar k => by
  have all : ∀ {Rs : List (V → Hp → Prop)} {vs : List V}, Paired (fun R v => Up R v F) (Rs ++ Som P Rx :: Ss) vs → ∃ x, P x ∧ Paired (fun R v => Up R v F) (Rs ++ Rx x :: Ss) vs := by
    intro Rs
    induction Rs with
    | nil =>
      intro vs h
      cases h with
      | cons r t =>
        obtain ⟨x, px, rx⟩ := r.here
        exact ⟨x, px, .cons ((hm x).up rx) t⟩
    | cons R0 Rs ih =>
      intro vs h
      cases h with
      | cons r t =>
        obtain ⟨x, px, t'⟩ := ih t
        exact ⟨x, px, .cons r t'⟩
  obtain ⟨x, px, t⟩ := all ar
  exact h x px vs F H Q ok t k
end
theorem js_retc {X : Cx} {E : En} {G : List Sl} {st : Stmt} {R R' : V → Hp → Prop} {N : List Sl → Prop} (p : PS X st (tS E G (Rn R) N)) (h : ∀ v F, R v F → R' v F) : PS X st (tS E G (Rn R') N) := PS_imp p fun D σ H ⟨F, S, kn, kr⟩ => ⟨F, S, kn, fun v F' H' b r => kr v F' H' b (r.imp fun F q => h v F q)⟩
/-- reading a list that may still turn, where the answer is a new Ratio -/
theorem je_viewQ {X : Cx} {E : En} {G : List Sl} {e : Expr} {i : Nat} {Rm : List V → Hp → Prop} {C : Addr} {q : Rat} (hG : G[i]? = some (.mt Rm)) (p : PE X e (tE E (G.set i (.fz (LstOf Rm))) (IsQ C q))) : PE X e (tE E G (IsQ C q)) := PE_imp p fun σ H Q ⟨F, S, k⟩ => by
  obtain ⟨p, vs, e, h1, h2, h3, h4, S'⟩ := S.freeze hG
  refine ⟨_, S', fun v F2 H2 g u => k v _ H2 (hide_gr S.ok h1 h3 g) (IsQ.up ?_)⟩
  obtain ⟨a, dx, rfl, ha⟩ := u.here
  have hp : F2 p = some (.lst vs) := g.f _ _ upd_same
  have ne : a ≠ p := fun z => by
    rw [z, hp] at ha
    cases ha
  exact ⟨a, dx, rfl, by show (if a = p then none else F2 a) = _; rw [if_neg ne]; exact ha⟩
/-- xs.append(ys.pop(d)), both of this def's own -/
theorem js_appendPop {X : Cx} {E : En} {G : List Sl} {st : Stmt} {α : Type} {Rx : α → V → Hp → Prop} {xs : List α} {i j m : Nat} {Ri : List V → Hp → Prop} {Ri' : α → List V → Hp → Prop} {Rt : V → Hp → Hp → Prop} {K : PySem.W.Frag} (hij : i ≠ j) (h : G[i]? = some (.mt Ri)) (hj : G[j]? = some (.mt (LsOf Rx xs))) (hm : m ≤ xs.length) (hl : xs.length < 1000)
    (p : PS X st (tDrop (tBM K "list" rAppend (tVar i) (tCons (tBM K "list" rPopAt (tVar j) (tCons (tE E G (Som (fun d : Nat => d < m) IsU)) tNil)) tNil))))
    (ha : ∀ x vs v F, Up Ri vs F → Up (Rx x) v F → Up (Ri' x) (vs ++ [v]) F) (hz : ∀ vs F, Ri vs F → vs.length < sizeLine) :
    PS X st (tS E G Rt (fun G' => ∃ d x, xs[d]? = some x ∧ G' = (G.set j (.mt (LsOf Rx (xs.eraseIdx d)))).set i (.mt (Ri' x)))) := PS_imp p fun D σ H ⟨F, S, kn, kr⟩ => by
  obtain ⟨p, vs, e1, h1, h2, h3, h4⟩ := S.mt i Ri h
  obtain ⟨q, ws, f1, k1, k2, k3, k4⟩ := S.mt j _ hj
  refine ⟨.ref p, e1, .inl ⟨rfl, vs, .inl (.inl h3)⟩, .ref q, f1, .inl ⟨rfl, ws, .inl (.inl k3)⟩, F, S, fun dv F1 H1 g1 u1 => ?_⟩
  obtain ⟨d, hd, ed⟩ := u1.here
  have ed : dv = .int (d : Int) := ed
  subst ed
  have S1 := S.gr g1
  obtain ⟨q', ws', f1', k1', k2', k3', k4'⟩ := S1.mt j _ hj
  rw [f1] at f1'
  cases f1'
  have hlen := k4'.here.len
  have hd1 : d < xs.length := by omega
  obtain ⟨v, hv, uv⟩ := k4'.here.get (List.getElem?_eq_getElem hd1)
  have hx : seqIndex? (d : Int) ws'.length = some d := (ixN_seq (gw_ixN (by omega : d < ws'.length))).1
  refine ⟨q, ws', (d : Int), d, v, rfl, rfl, k3', by omega, by omega, hx, hv, ?_⟩
  have er : ∀ {xs : List α} {ws : List V} {d : Nat}, LsOf Rx xs ws F1 → LsOf Rx (xs.eraseIdx d) (ws.eraseIdx d) F1 := by
    intro xs ws d a
    induction a generalizing d with
    | nil => exact .nil
    | cons r t ih =>
      cases d with
      | zero => exact t
      | succ d => exact .cons r ih
  have S2 := S1.turn hj f1 (LsOf.up (er (d := d) k4'.here))
  have h' : (G.set j (.mt (LsOf Rx (xs.eraseIdx d))))[i]? = some (.mt Ri) := by rw [List.getElem?_set_ne (Ne.symm hij)]; exact h
  obtain ⟨p', vs', e1', h1', h2', h3', h4'⟩ := S2.mt i Ri h'
  rw [e1] at e1'
  cases e1'
  refine ⟨p, vs', v, rfl, rfl, h3', hz vs' F1 h4'.here, ?_⟩
  exact kn _ σ F1 _ ⟨d, xs[d], List.getElem?_eq_getElem hd1, rfl⟩ (S2.turn h' e1 (ha xs[d] vs' v F1 h4' uv)) g1.f
section
variable {X : Cx} {E : En} {G : List Sl} {e a b : Expr} {es : List Expr} {R : V → Hp → Prop} {p pos : Pos} {ι α : Type} {Rs : ι → List (V → Hp → Prop)} {pre : ι → Prop} {x : Str} {k : Nat} {ps : List Str} {Rf : ι → V → Hp → Prop} {P : α → Prop} {Rx : α → V → Hp → Prop} {rest : List Expr}
/-- f(pot, a) where a is not known -/
theorem jcPS (T : Kn X.prog X.w X.K X.mg X.base x k ps (PrP Rs pre Rf)) (hr : Room k X.A) (hpot : ∃ i : Nat, G[i]? = some .pot) (w : α → ι) (ha : PA X (e :: es) (tAP E G [Som P Rx])) (hw : ∀ x, Rs (w x) = [Rx x]) (hm : ∀ x, Mo (Rx x)) (hp : ∀ x, P x → pre (w x)) (hR : ∀ x, P x → ∀ v F, Rf (w x) v F → R v F) (hg : Gl X x := by rfl) (hdb : (x == ("__debug__" : Str)) = false := by decide)
    (he : starEach (e :: es) X.env = (false, eval e X.env) :: starEach es X.env := by rfl) (hpl : (backTo pos (starEach es X.env)).any (·.1) = false := by rfl) : PE X (.Call (.Name x p) (e :: es) [] pos) (tE E G R) := by
  obtain ⟨f, fd, g, kp, b, ok⟩ := T
  refine PE_imp (pe_call (E := E0) ok hr hg g kp b .nil pass0 ha hdb he hpl) fun σ H Q ⟨F, S, k⟩ => ?_
  obtain ⟨i, hi⟩ := hpot
  obtain ⟨q, _, hq⟩ := S.pt i hi
  refine ⟨F, q, S, hq, fun vs F1 H1 g1 a => ?_⟩
  cases a with
  | cons r t =>
    cases t
    obtain ⟨y, py, ry⟩ := r.here
    refine ⟨F1, q, [_], w y, by rw [List.append_nil], by rw [← hq]; exact g1.ok, by rw [hw]; exact .cons ((hm y).up ry) .nil, hp y py, fun v F2 H2 g2 u => k v F2 H2 (g1.trans (by rw [hq]; exact g2)) (u.imp fun F z => hR y py v F z)⟩
/-- f(a) where a is not known -/
theorem jcS (T : Kn X.prog X.w X.K X.mg X.base x k ps (Pr Rs pre Rf)) (hr : Room k X.A) (w : α → ι) (ha : PA X (e :: es) (tA E G [Som P Rx])) (hw : ∀ x, Rs (w x) = [Rx x]) (hm : ∀ x, Mo (Rx x)) (hp : ∀ x, P x → pre (w x)) (hR : ∀ x, P x → ∀ v F, Rf (w x) v F → R v F) (hg : Gl X x := by rfl) (hdb : (x == ("__debug__" : Str)) = false := by decide)
    (he : starEach (e :: es) X.env = (false, eval e X.env) :: starEach es X.env := by rfl) (hpl : (backTo pos (starEach es X.env)).any (·.1) = false := by rfl) : PE X (.Call (.Name x p) (e :: es) [] pos) (tE E G R) := by
  obtain ⟨f, fd, g, kp, b, ok⟩ := T
  refine PE_imp (pe_call (E := E0) ok hr hg g kp b .nil pass0 ha hdb he hpl) fun σ H Q ⟨F, S, k⟩ => ?_
  refine ⟨F, S, fun vs F1 H1 g1 a => ?_⟩
  cases a with
  | cons r t =>
    cases t
    obtain ⟨y, py, ry⟩ := r.here
    exact ⟨F1, w y, g1.ok.none, by rw [hw, List.append_nil]; exact .cons ((hm y).up ry) .nil, hp y py, fun v F2 H2 g2 u => k v F2 H2 (g1.trans (g2.lift g1.ok)) (u.imp fun F z => hR y py v F z)⟩
/-- a and b, where b's answer is not known -/
theorem jwS_and1 {Pb : Bool → Prop} (p : PT X a (tTS E G Pb)) : PW X (.BoolOp .And [a] pos) (tTS E G Pb) := pw_and1 p
theorem jwS_and {b1 : Bool} {Pb : Bool → Prop} (p : PT X a (tT E G b1)) (q : b1 = true → PW X (.BoolOp .And (b :: rest) pos) (tTS E G Pb)) (h : b1 = false → Pb false) : PW X (.BoolOp .And (a :: b :: rest) pos) (tTS E G Pb) :=
  PW_imp (pw_and p (PW_when q)) fun σ H Q ⟨F, S, k⟩ => ⟨F, S, fun F1 H1 g1 => by
    cases b1 with
    | true =>
      show (true = true ∧ tTS E G Pb σ H1 Q)
      exact ⟨rfl, F1, S.gr g1, fun c F2 H2 pc g2 => k c F2 H2 pc (g1.trans g2)⟩
    | false =>
      show Q false H1
      exact k false F1 H1 (h rfl) g1⟩
end
/-- xs, a = new list, value: through the pair, as cells are stored -/
theorem js_asgMF {X : Cx} {E : En} {G : List Sl} {st : Stmt} {Rb : V → Hp → Prop} {Rm : List V → Hp → Prop} {Rt : V → Hp → Hp → Prop} {K : PySem.W.Frag} {i j : Nat} (hij : i ≠ j) (p : PS X st (tAsg (tTup (tCons (tM E G Rm) (tCons (tE E G Rb) tNil))) (gTup K 2 (gCons (gName i) (gCons (gName j) gNil))))) : PS X st (tS E G Rt (· = (G.set i (.mt Rm)).set j (.fz Rb))) := PS_imp p fun D σ H ⟨F, S, kn, kr⟩ =>
  ⟨F, S, fun q ws F1 H1 g1 n1 n2 n3 u1 => ⟨F1, S.gr g1, fun w F2 H2 g2 u2 => ⟨by show 2 ≤ sizeLine; decide, fun t ht => by
    have g3 := Gr.raw (o := HO.tup [.ref q, w]) g2.ok ht
    have np : E.pp ≠ some q := fun z => by
      obtain ⟨_, x, y, h2, _⟩ := S.ok.p q z
      rw [n1] at h2
      cases h2
    have f2 : F2 q = none := by
      cases z : F2 q with
      | none => rfl
      | some o =>
        rcases g2.n q o z with w | w
        · rw [n2] at w; cases w
        · rw [n3] at w; cases w
    have h2q := g2.k q _ n3 np
    have qt : q ≠ t := ne_of_none h2q ht
    refine ⟨t, [.ref q, w], rfl, .inl (.inl upd_same), rfl, _, _, rfl, _, _, rfl, rfl, ?_⟩
    have S1 := (S.gr ((g1.trans g2).trans g3)).set_mt (i := i) f2 (S.bs.back n1) (by rw [upd_ne qt]; exact h2q) (u1.mono g2.f) fun k Rk hk hG hs => fresh_mt S n1 hG hs
    exact kn _ _ F2 _ rfl (S1.set_fz u2) (g1.trans g2).f⟩⟩⟩
theorem ints_isU {ms : List Nat} {vs : List V} {F : Hp} (h : LsOf IsI (ms.map fun (n : Nat) => (n : Int)) vs F) : LsOf IsU ms vs F := by
  induction ms generalizing vs with
  | nil => cases h; exact .nil
  | cons m ms ih =>
    cases h with
    | cons r t => exact .cons r (ih t)
end Gw
set_option maxHeartbeats 4000000
/-! == of lists of lists of Ratios; calls by keywords; the pot handed on. -/
namespace Gw
open PySem PySem.Spec PyProof.Rows L2
def EqQ (C : Addr) (a b : Addr) (H : Hp) : Prop := ∃ q dx dy, H a = some (.ins C dx (qFs q)) ∧ H b = some (.ins C dy (qFs q))
section
variable {X : Cx} {E : En} {G : List Sl} {a b e : Expr} {es : List Expr} {p pos : Pos} {C : Addr} {k : Nat}
theorem eqQ_ext {C : Addr} : ∀ a b H H', Ext H H' → EqQ C a b H → EqQ C a b H' := fun a b H H' e ⟨q, dx, dy, h1, h2⟩ => ⟨q, dx, dy, e _ _ h1, e _ _ h2⟩
theorem sp_eqQ {vs : List V} {H : Hp} {Q : VK} {E' : XK} (h : spEq (EqQ C) vs H Q E') : spEqQ C vs H Q E' := by
  obtain ⟨a, b, rfl, ⟨q, dx, dy, h1, h2⟩, kq⟩ := h
  refine ⟨H, (q, q), ⟨Ex.refl H, fun _ h => nomatch h⟩, .cons (IsQ.up ⟨a, dx, rfl, h1⟩) (.cons (IsQ.up ⟨b, dy, rfl, h2⟩) .nil), trivial, fun v F' H' g u => ?_⟩
  have e : v = .bl (decide (q = q)) := u.here
  rw [e, decide_eq_true rfl]
  exact kq H' fun x o h => g.k x o h (fun z => nomatch z)
theorem prs_of {α : Type} {R : α → V → Hp → Prop} {D : Eqv} {F H : Hp} (hD : ∀ x v w, Up (R x) v F → Up (R x) w F → D v w H) : ∀ {xs : List α} {vs ws : List V}, LsOf R xs vs F → LsOf R xs ws F → Prs D vs ws H
  | [], [], [], _, _ => Prs.nil
  | x :: xs, v :: vs, w :: ws, .cons r t, .cons r' t' => Prs.cons (hD x v w r r') (prs_of hD t t')
theorem jeqMM {M : List (List Rat)} (T : EqK X.prog X.w X.K X.mg X.base C k) (hr : Room (k + 2) X.A) (ha : PE X a (tE E G (IsL (IsL (IsQ C)) M))) (hb : PE X b (tE E G (IsL (IsL (IsQ C)) M))) : PE X (.Compare a [.Eq] [b] pos) (tE E G (IsB true)) := by
  obtain ⟨f, fd, h1, h2, h3, h4, ok, bd⟩ := T
  have F1 := ok.imp (fun vs H Q E' h => sp_eqQ (C := C) (E' := E') h)
  have m1 : Mon (DIns C (EqQ C)) := mon_ins eqQ_ext
  have e1 : EqG X k (DIns C (EqQ C)) := eqG_ins F1 h1 h2 bd (pass00 (E' := E0))
  have e2 := eqG_list m1 e1
  have e3 := rcG_list (mon_list m1) e2
  refine je_op (pe_cmpR (op_eqG e3 hr) ha hb (nomark _)) (fun x y F H Q okk u1 u2 kq => ?_)
  obtain ⟨p, vs, rfl, hp, up⟩ := u1.here
  obtain ⟨q, ws, rfl, hq, uq⟩ := u2.here
  refine ⟨⟨p, q, vs, ws, rfl, rfl, okk.s _ _ hp, okk.s _ _ hq, prs_of (R := IsL (IsQ C)) (fun r v w a1 a2 => ?_) up.here uq.here⟩, fun H' ext => kq _ F H' ⟨Ex.refl F, fun x o h => ext _ _ (okk.s _ _ h), fun x o h _ => ext _ _ h, fun x o h => .inl h, fun x hx => ?_⟩ (fun _ _ => rfl)⟩
  · obtain ⟨p', vs', rfl, hp', up'⟩ := a1.here
    obtain ⟨q', ws', rfl, hq', uq'⟩ := a2.here
    refine ⟨p', q', vs', ws', rfl, rfl, okk.s _ _ hp', okk.s _ _ hq', prs_of (R := IsQ C) (fun r v w b1 b2 => ?_) up'.here uq'.here⟩
    obtain ⟨x, dx, rfl, hx⟩ := b1.here
    obtain ⟨y, dy, rfl, hy⟩ := b2.here
    exact ⟨x, y, dx, dy, _, _, rfl, rfl, okk.s _ _ hx, okk.s _ _ hy, r, dx, dy, okk.s _ _ hx, okk.s _ _ hy⟩
  · obtain ⟨q1, i, j, q2, q3⟩ := okk.p x hx
    exact ⟨q1, i, j, ext _ _ q2, q3⟩
/-! ### keywords -/
def KnK (P : Program) (w : World) (K : PySem.W.Frag) (mg : Str → Option Value) (base : Heap) (x : Str) (k : Nat) (ps : List Str) (sp : Sp) (n : Nat) (ks : List Str) (gV : List V → List V → List V) : Prop :=
  ∃ (f : Addr) (fd : FuncData) (g : List Value → List Value → List Value), mg x = some (.ref f) ∧ PySem.W.keepIn K (.ref f) = true ∧ KBn K fd ps n ks g gV ∧ FnOk P w K mg base CX0 k f fd ps sp
variable {ι : Type} {Rs : ι → List (V → Hp → Prop)} {pre : ι → Prop} {x : Str} {ps ks : List Str} {Rf : ι → V → Hp → Prop} {kws : List Keyword} {n : Nat} {gV : List V → List V → List V} {R1 R2 : List (V → Hp → Prop)} {R : V → Hp → Prop}
theorem jcK (T : KnK X.prog X.w X.K X.mg X.base x k ps (Pr Rs pre Rf) n ks gV) (hr : Room k X.A) (w : ι) (ha : PA X (e :: es) (tA E G R1)) (hkw : PK X kws (tA E G R2)) (h1 : R1.length = n) (h2 : R2.length = ks.length) (hg : ∀ vs ws F, Args R1 vs F → Args R2 ws F → Args (Rs w) (gV vs ws) F) (hp : pre w) (hR : Rf w = R := by exact rfl) (hgl : Gl X x := by rfl)
    (hall : (backToKw pos (keywordEach kws X.env)).all (·.1.isSome) = true := by rfl) (hks : (backToKw pos (keywordEach kws X.env)).filterMap (·.1) = ks := by rfl)
    (hdb : (x == ("__debug__" : Str)) = false := by decide) (he : starEach (e :: es) X.env = (false, eval e X.env) :: starEach es X.env := by rfl)
    (hpl : ((backTo pos (starEach (e :: es) X.env)).any (·.1) || (backToKw pos (keywordEach kws X.env)).any (·.1.isNone)) = false := by rfl) : PE X (.Call (.Name x p) (e :: es) kws pos) (tE E G R) := by
  subst hR
  obtain ⟨f, fd, g, m, kp, kb, ok⟩ := T
  refine PE_imp (pe_callN (E := E0) ok hr hgl m kp kb pass0 ha hkw hall hks hdb he hpl) fun σ H Q ⟨F, S, kq⟩ => ⟨F, S, fun vs F1 H1 g1 a1 => ⟨F1, S.gr g1, fun ws F2 H2 g2 a2 => ⟨by rw [← a1.len, h1], by rw [← a2.len, h2], ?_⟩⟩⟩
  have gg := g1.trans g2
  exact ⟨F2, w, gg.ok.none, hg vs ws F2 (a1.mono g2.f) a2, hp, fun v F' H' g' u => kq v F' H' (gg.trans (g'.lift gg.ok)) u⟩
theorem pe_callN0 {sp : Sp} {f : Addr} {fd : FuncData} {g : List Value → List Value → List Value} {tk : TA} (F : FnOk X.prog X.w X.K X.mg X.base CX0 k f fd ps sp) (hr : Room k X.A) (hg : Gl X x) (hm : X.mg x = some (.ref f)) (hk : PySem.W.keepIn X.K (.ref f) = true) (hb : KBn X.K fd ps 0 ks g gV)
    (hkw : PK X kws tk) (hall : (backToKw pos (keywordEach kws X.env)).all (·.1.isSome) = true := by rfl) (hks : (backToKw pos (keywordEach kws X.env)).filterMap (·.1) = ks := by rfl)
    (hdb : (x == ("__debug__" : Str)) = false := by decide)
    (hpl : ((backTo pos (starEach [] X.env)).any (·.1) || (backToKw pos (keywordEach kws X.env)).any (·.1.isNone)) = false := by rfl) :
    PE X (.Call (.Name x p) [] kws pos) (fun σ H Q => tk σ H fun zs H2 => zs.length = ks.length ∧ sp (gV [] zs) H2 Q E0) := by
  refine ⟨fun pins s σ H Q I h => ?_⟩
  refine wpAny_Call_Name_kw (ld_glob I hg hm ?_ hdb)
  refine PySem.W.callWith_KW0 (h₀ := X.base) I.ok.mod.kin hk hall ?_ hpl
  refine thn (hkw.run pos pins s σ H _ I h) fun ws s2 ⟨zs, H2, I2, rz, l2, q2⟩ => ⟨I2.kIn, ?_⟩
  rw [hks]
  exact run_fnN (us := []) (vs := []) F hr hb pass0 I2 .nil rz rfl l2 q2
theorem jcK0 (T : KnK X.prog X.w X.K X.mg X.base x k ps (Pr Rs pre Rf) 0 ks gV) (hr : Room k X.A) (w : ι) (hkw : PK X kws (tA E G R2)) (h2 : R2.length = ks.length) (hg : ∀ ws F, Args R2 ws F → Args (Rs w) (gV [] ws) F) (hp : pre w) (hR : Rf w = R := by exact rfl) (hgl : Gl X x := by rfl)
    (hall : (backToKw pos (keywordEach kws X.env)).all (·.1.isSome) = true := by rfl) (hks : (backToKw pos (keywordEach kws X.env)).filterMap (·.1) = ks := by rfl)
    (hdb : (x == ("__debug__" : Str)) = false := by decide)
    (hpl : ((backTo pos (starEach [] X.env)).any (·.1) || (backToKw pos (keywordEach kws X.env)).any (·.1.isNone)) = false := by rfl) : PE X (.Call (.Name x p) [] kws pos) (tE E G R) := by
  subst hR
  obtain ⟨f, fd, g, m, kp, kb, ok⟩ := T
  refine PE_imp (pe_callN0 ok hr hgl m kp kb hkw hall hks hdb hpl) fun σ H Q ⟨F, S, kq⟩ => ⟨F, S, fun ws F2 H2 g2 a2 => ⟨by rw [← a2.len, h2], ?_⟩⟩
  exact ⟨F2, w, g2.ok.none, hg ws F2 a2, hp, fun v F' H' g' u => kq v F' H' (g2.trans (g'.lift g2.ok)) u⟩
/-! ### f(g(..)) where g makes the pot -/
theorem je_newpot {fR : V → Hp → Prop} {Rl : List V → Hp → Prop} {e1 : Expr} (T : Kn X.prog X.w X.K X.mg X.base x k ps (PrP (ι := Unit) (fun _ => []) (fun _ => True) (fun _ => fR))) (hr : Room k X.A) (hE : E.pp = none) (hP : ∀ vs F, Rl vs F → ∃ i j : Int, vs = [.int i, .int j] ∧ 0 ≤ i ∧ 0 ≤ j ∧ j < 2 ^ 40) (ha : PE X e1 (tM E G Rl)) (hpl' : ∀ v F F', fR v F → fR v F') (hg : Gl X x := by rfl) (hdb : (x == ("__debug__" : Str)) = false := by decide)
    (he : starEach [e1] X.env = (false, eval e1 X.env) :: starEach [] X.env := by rfl) : PE X (.Call (.Name x p) [e1] [] pos) (tE E G fR) := by
  obtain ⟨f, fd, g, kp, b, ok⟩ := T
  refine PE_imp (pe_call (E := E0) ok hr hg g kp b .nil pass0 (pa_cons ha pa_nil he) hdb he (by rfl)) fun σ H Q ⟨F, S, kq⟩ => ⟨F, S, fun q ws F1 H1 g1 n1 n2 n3 u => ?_⟩
  obtain ⟨i, j, rfl, hi, hj, hj2⟩ := hP ws F1 u.here
  refine ⟨F1, q, [], (), rfl, ⟨g1.s, fun a ha => ?_⟩, .nil, trivial, fun v F' H' g2 u2 => kq v F' H' ?_ (fun F'' _ => hpl' v F' F'' u2.here)⟩
  · cases ha
    exact ⟨n2, i, j, n3, hi, hj, hj2⟩
  · rw [hE] at g1 ⊢
    exact {
      f := g1.f.trans g2.f
      s := g2.s
      k := fun a o h _ => g2.k a o (g1.k a o h (fun z => nomatch z)) (fun z => by
        have : a = q := (Option.some.inj z).symm
        rw [this, n1] at h
        cases h)
      n := fun a o h => by
        rcases g2.n a o h with w | w
        · exact g1.n a o w
        · exact .inr (g1.back w)
      p := fun _ z => nomatch z }
end
end Gw
set_option maxHeartbeats 4000000
namespace Gw
open PySem PySem.Spec PyProof.Rows L2
/-! ### an own error without arguments: raised, let out, caught -/
structure NwF (K : PySem.W.Frag) (mg : Str → Option Value) (NW : Addr) : Prop where
  g : mg "NotWhole" = some (.ref NW)
  x : PySem.W.excIn K NW [.type "RuntimeError", .type "Exception", .type "BaseException", .type "object"] "RuntimeError.__new__" = true
  kp : PySem.W.keepIn K (.ref NW) = true
  b : PySem.W.subIn K (.ref NW) (.type "BaseException") = some true
  t : PySem.W.typeIn K (.ref NW) = some (.type "type")
  e : PySem.W.exmOne K (.ref NW) (.ref NW) = some true
section
variable {X : Cx} {C : Addr} {bmB : List Value} {B newId initId : String}
/-- X() -/
theorem pmk_own0 {x : Str} {p pos : Pos} (F : ExcBaseFacts B newId initId bmB) (q : PySem.W.excIn X.K C bmB newId = true) (gC : X.mg x = some (.ref C)) (kC : PySem.W.keepIn X.K (.ref C) = true) (r : Raises X (.ref C)) (hg : Gl X x)
    (hdb : (x == ("__debug__" : Str)) = false := by decide) : PMk X (.Call (.Name x p) [] [] pos) (fun _ H Q => Q (.ref C) none H) := by
  intro pins s σ H Q I h
  refine wpAny_Call_Name_kw (ld_glob I hg gC ?_ hdb)
  refine PySem.W.callWith_K0 I.kIn kC ?_
  obtain ⟨bm, N, nm, qn, bs, hdct, sn, sub, ab, col, dd, k0, k1, k2, k3, k5, mN, hC, hN, hni, T⟩ := exc_obj I.kIn q
  obtain ⟨hp1, g1, d1, tk1, os1⟩ := s
  exact wpAny_call_exc_subT F T hC hN hni (fun h' e hm => mk_of I hm r h (I.hok.gone hm.new)) (Nat.zero_le _)
end
section
variable {X : Cx} {E : En} {G : List Sl} {Rt : V → Hp → Hp → Prop} {N N1 : List Sl → Prop} {NW : Addr} {pos p pos' : Pos}
abbrev WNw (NW : Addr) (E : En) (ok : Prop) : WX := fun cls d _ H => cls = .ref NW ∧ d = none ∧ ¬ ok ∧ ∃ F, Bs E F H
theorem js_raise {ok : Prop} (T : NwF X.K X.mg NW) (hc : X.calm = true) (tk : Takes X (WNw NW E ok)) (hn : ¬ ok) (hg : Gl X "NotWhole" := by rfl) : PS X (.Raise (some (.Call (.Name "NotWhole" p) [] [] pos)) none pos') (tS E G Rt N) :=
  PS_imp (ps_raise hc tk (pmk_own0 PySem.F.excBase_RuntimeError T.x T.g T.kp (raises_own T.b T.t) hg)) fun D σ H ⟨F, S, _⟩ => ⟨rfl, rfl, hn, F, S.bs⟩
end
/-- a promise with a second end: the error of the class at NW -/
def PrX {ι : Type} (NW : Addr) (Rs : ι → List (V → Hp → Prop)) (pre ok : ι → Prop) (Rz : ι → V → Hp → Prop) : Sp := fun vs H Q E => ∃ (F : Hp) (w : ι), Ok none F H ∧ Args (Rs w) vs F ∧ pre w ∧ (ok w → ∀ v F' H', Gr none F H F' H' → Up (Rz w) v F' → Q v H') ∧ (¬ ok w → ∀ F' H', Gr none F H F' H' → E (.ref NW) none H')
section
variable {P : Program} {w : World} {K : PySem.W.Frag} {mg : Str → Option Value} {base : Heap} {x qual : Str} {params : Arguments} {body : List Stmt} {scope : Scope} {dvs : List V} {kws : List (Str × V)} {f : Addr} {fd : FuncData} {N ps : List Str} {k : Nat} {ι : Type} {Rs : ι → List (V → Hp → Prop)} {pre ok : ι → Prop} {NW : Addr}
theorem fn_prX {Rz : ι → V → Hp → Prop} (Fd : FunD K x qual params body scope dvs kws f fd) (S : FnScope N ps scope) (hl : ∀ u, (Rs u).length = ps.length)
    (hb : ∀ (X : Cx) (u : ι) (E : En), (∃ cdv A outer s H E', X = cxOf (L2.CX P w) P w K mg base N qual scope f cdv A outer s H E' ∧ Room k X.A) → pre u → E.pp = none → Takes X (WNw NW E (ok u)) → PSs X body (tS E (G0 (Rs u) N.length) (fun v F _ => ok u ∧ Up (Rz u) v F) (fun _ => False))) : FnOk P w K mg base (L2.CX P w) (k + 1) f fd ps (PrX NW Rs pre ok Rz) := by
  refine Fd.ok S (fun vs H Q E ⟨F, u, _, a, _, _⟩ => by rw [← a.len, hl]) (fun cdv A outer s H vs Q E hr ⟨F, u, okk, a, hp, kq, ke⟩ => ?_)
  have tk : Takes (cxOf (L2.CX P w) P w K mg base N qual scope f cdv A outer s H E) (fun cls d _ H => E cls d H) := takes_of rfl rfl rfl rfl
  refine ⟨tS ⟨F, H, none⟩ (G0 (Rs u) N.length) (fun v F _ => ok u ∧ Up (Rz u) v F) (fun _ => False), hb _ u ⟨F, H, none⟩ ⟨cdv, A, outer, s, H, E, rfl, hr⟩ hp rfl (tk.imp fun c d σ H' ⟨e1, e2, hn, F', b⟩ => ?_), F, sat_start okk a, fun G' σ' F' H' n S' _ => n.elim, fun v F' H' b r => kq r.1 v F' H' b r.2⟩
  subst e1
  subst e2
  exact ke hn F' H' b
end
/-! ### the call in a try -/
section
variable {X : Cx} {CX : CXT} {k : Nat} {f : Addr} {fd : FuncData} {ps ks : List Str} {sp : Sp} {W : WX} {x : Str} {p pos : Pos} {kws : List Keyword} {tk : TA} {g : List Value → List Value → List Value} {gV : List V → List V → List V}
theorem pe_callN0S (F : FnOk X.prog X.w X.K X.mg X.base (L2.CX X.prog X.w) k f fd ps sp) (hr : Room k X.A) (hg : Gl X x) (hm : X.mg x = some (.ref f)) (hk : PySem.W.keepIn X.K (.ref f) = true) (hb : KBn X.K fd ps 0 ks g gV) (hx : Takes X W)
    (hkw : PK X kws tk) (hall : (backToKw pos (keywordEach kws X.env)).all (·.1.isSome) = true := by rfl) (hks : (backToKw pos (keywordEach kws X.env)).filterMap (·.1) = ks := by rfl)
    (hdb : (x == ("__debug__" : Str)) = false := by decide)
    (hpl : ((backTo pos (starEach [] X.env)).any (·.1) || (backToKw pos (keywordEach kws X.env)).any (·.1.isNone)) = false := by rfl) :
    PE X (.Call (.Name x p) [] kws pos) (fun σ H Q => tk σ H fun zs H2 => zs.length = ks.length ∧ sp (gV [] zs) H2 Q (WE W σ)) := by
  refine ⟨fun pins s σ H Q I h => ?_⟩
  refine wpAny_Call_Name_kw (ld_glob I hg hm ?_ hdb)
  refine PySem.W.callWith_KW0 (h₀ := X.base) I.ok.mod.kin hk hall ?_ hpl
  refine thn (hkw.run pos pins s σ H _ I h) fun ws s2 ⟨zs, H2, I2, rz, l2, q2⟩ => ⟨I2.kIn, ?_⟩
  rw [hks]
  have r2 := hb.rel .nil rz
  refine wpAny_call (codeAny_mono (F.run X.A X.stack s2 H2 ⟨[], ks.zip ws⟩ (g [] ws) (gV [] zs) Q (WE W σ) hr I2.env0 (hb.to s2 [] ws I2.kIn rfl (rz.length.symm.trans l2)) r2 q2) fun r s' hq => ?_)
  cases r with
  | error e => exact passAt hx σ pins H2 s2 e s' I2 hq
  | ok fl =>
    cases fl with
    | ret u => exact I2.after hq
    | next => exact False.elim hq
    | brk => exact False.elim hq
    | cont => exact False.elim hq
end
def KnX (NW : Addr) (P : Program) (w : World) (K : PySem.W.Frag) (mg : Str → Option Value) (base : Heap) (x : Str) (k : Nat) (ps : List Str) (sp : Sp) (ks : List Str) (gV : List V → List V → List V) : Prop :=
  ∃ (f : Addr) (fd : FuncData) (g : List Value → List Value → List Value), mg x = some (.ref f) ∧ PySem.W.keepIn K (.ref f) = true ∧ KBn K fd ps 0 ks g gV ∧ FnOk P w K mg base (L2.CX P w) k f fd ps sp
section
variable {X : Cx} {E : En} {G : List Sl} {k : Nat} {NW : Addr} {ι : Type} {Rs : ι → List (V → Hp → Prop)} {pre ok : ι → Prop} {x y : Str} {ps ks : List Str} {Rz : ι → V → Hp → Prop} {kws : List Keyword} {gV : List V → List V → List V} {R2 : List (V → Hp → Prop)} {R : V → Hp → Prop} {i : Nat} {p p1 p2 p3 p4 p5 p6 pos : Pos} {Rt : V → Hp → Hp → Prop} {N1 : List Sl → Prop} {b₀ : Stmt} {suite : List Stmt} {n : Str}
theorem gl_tr {pn : List (Addr × Obj)} {xe : Value → Shared → Prop} {x : Str} (h : Gl X x) : Gl (X.tr pn xe) x := h
/-- try: y = x(a=.., ..) except NotWhole: suite -/
theorem js_try_call (u : ι) (T : NwF X.K X.mg NW) (F : KnX NW X.prog X.w X.K X.mg X.base x k ps (PrX NW Rs pre ok Rz) ks gV) (hs : X.stack = X.env :: X.outer) (hf : X.env.frame = some X.env.locals) (hr : Room k X.A) (hN : X.N[i]? = some y) (nd : X.N.Nodup) (hv : X.env.scope.names.lookup y = some NameKind.local)
    (hkw : ∀ (pn : List (Addr × Obj)) (xe : Value → Shared → Prop), PassesOwn (model X.prog X.w) X.A X.env xe → PK (X.tr pn xe) kws (tA E G R2)) (h2 : R2.length = ks.length) (hg : ∀ ws F, Args R2 ws F → Args (Rs u) (gV [] ws) F) (hp : pre u)
    (hsu : ¬ ok u → ∀ (a : Addr) (oe : Obj) (pn : List (Addr × Obj)), PSs (X.suite a ((a, oe) :: pn)) (b₀ :: suite) (tS E G Rt N1)) (hN1 : ok u → N1 (G.set i (.fz (Rz u))))
    (hall : (backToKw pos (keywordEach kws X.env)).all (·.1.isSome) = true := by rfl) (hks : (backToKw pos (keywordEach kws X.env)).filterMap (·.1) = ks := by rfl)
    (hpl : ((backTo pos (starEach [] X.env)).any (·.1) || (backToKw pos (keywordEach kws X.env)).any (·.1.isNone)) = false := by rfl) (hdb : (x == ("__debug__" : Str)) = false := by decide) (hsw : swapsWith (.Call (.Name x p) [] kws pos) (some (.Name y p1)) p2.line X.env = pure false := by rfl) (hgx : Gl X x := by rfl) (hgn : Gl X "NotWhole" := by rfl) :
    PS X (.Try [.Assign [.Name y p1] (.Call (.Name x p) [] kws pos) p2] [.ExceptHandler (some (.Name "NotWhole" p3)) none (b₀ :: suite) p4] [] [] p5) (tS E G Rt N1) := by
  obtain ⟨f, fd, g, m, kp, kb, okf⟩ := F
  by_cases ho : ok u
  · refine PS_imp (ps_try_only (c := .ref NW) (Wout := fun _ _ _ _ => False) (ts := fun _ _ _ => fun _ _ _ => False) (tb := fun W => tAsg (fun σ H Q => tA E G R2 σ H fun zs H2 => zs.length = ks.length ∧ PrX NW Rs pre ok Rz (gV [] zs) H2 Q (WE W σ)) (gName i)) hs hf ⟨hgn, by decide, .inl T.g⟩ takes0 (fun W pn xe tk hpa => pss_one (ps_set (i := i) nd hN (.inl hv) (pe_callN0S okf hr hgx m kp kb tk (hkw pn xe hpa) hall hks hdb hpl) hsw (.inr hv))) (fun a oe cls d pn _ _ => ?_)) fun D σ H ⟨F, S, kn, kr⟩ => ?_
    · exact ⟨fun pins s σ H D I hw => hw.elim⟩
    · refine ⟨F, S, fun zs F2 H2 g2 a2 => ⟨by rw [← a2.len, h2], F2, u, g2.ok.none, hg zs F2 a2, hp, fun _ v F' H' g' uu => ?_, fun hn => absurd ho hn⟩⟩
      have gg := g2.trans (g'.lift g2.ok)
      exact kn _ _ F' H' (hN1 ho) ((S.gr gg).set_fz uu) gg.f
  · refine PS_imp (ps_try_only (c := .ref NW) (Wout := fun _ _ _ _ => False) (ts := fun _ cls _ => fun D σ H => cls = .ref NW ∧ tS E G Rt N1 D σ H) (tb := fun W => tAsg (fun σ H Q => tA E G R2 σ H fun zs H2 => zs.length = ks.length ∧ PrX NW Rs pre ok Rz (gV [] zs) H2 Q (WE W σ)) (gName i)) hs hf ⟨hgn, by decide, .inl T.g⟩ takes0 (fun W pn xe tk hpa => pss_one (ps_set (i := i) nd hN (.inl hv) (pe_callN0S okf hr hgx m kp kb tk (hkw pn xe hpa) hall hks hdb hpl) hsw (.inr hv))) (fun a oe cls d pn _ _ => ?_)) fun D σ H ⟨F, S, kn, kr⟩ => ?_
    · exact PSs_imp (hsu ho a oe pn) fun D σ H h => h.2
    · refine ⟨F, S, fun zs F2 H2 g2 a2 => ⟨by rw [← a2.len, h2], F2, u, g2.ok.none, hg zs F2 a2, hp, fun h => absurd h ho, fun _ F' H' g' => ?_⟩⟩
      have gg := g2.trans (g'.lift g2.ok)
      exact ⟨true, T.e, fun _ a ha => ⟨rfl, F', S.gr gg, fun G' σ' F3 H3 n S3 e3 => kn G' σ' F3 H3 n S3 (gg.f.trans e3), kr⟩, fun h => nomatch h⟩
end
end Gw
set_option maxHeartbeats 4000000
/-! range from a place on; a new list of what stands in a list. -/
namespace Gw
open PySem PySem.Spec PyProof.Rows L2
section
variable {X : Cx} {E : En} {G : List Sl}
def fromTo (a n : Nat) : List Nat := (List.range (n - a)).map fun i => a + i
theorem fromTo_get {a n i x : Nat} (h : (fromTo a n)[i]? = some x) : x = a + i ∧ i < n - a := by
  unfold fromTo at h
  rw [List.getElem?_map] at h
  by_cases hi : i < n - a
  · rw [List.getElem?_range hi] at h
    exact ⟨(Option.some.inj h).symm, hi⟩
  · rw [List.getElem?_eq_none (by simpa using hi)] at h
    cases h
theorem ji_range2 {a n : Nat} {tg e : Expr} (ha : a < 2 ^ 62) (hn : n < 2 ^ 62) (p : PI X tg e (iRng2 (tA E G [IsU a, IsU n]))) : PI X tg e (tI E G IsU (fromTo a n)) := PI_imp p fun σ H Rj ⟨F, S, k⟩ =>
  ⟨F, S, fun vs F1 H1 g1 ar => by
    cases ar with
    | cons r t => cases t with
      | cons r2 t2 =>
        cases t2
        refine ⟨(a : Int), (n : Int), by rw [r.here, r2.here], ⟨by omega, by exact_mod_cast ha, by omega, by exact_mod_cast hn⟩, k _ F1 H1 g1 ?_⟩
        have hl : (fromTo a n).length = n - a := by simp [fromTo]
        have hm : ((n : Int) - (a : Int)).toNat = n - a := by omega
        refine ⟨fun i F2 H2 hi _ _ => ?_, fun F2 H2 _ _ => ?_, fun i x F2 H2 v H3 hx _ o y => ?_⟩
        · show i < ((n : Int) - (a : Int)).toNat
          rw [hl] at hi
          omega
        · show ((n : Int) - (a : Int)).toNat ≤ _
          rw [hl, hm]
          exact Nat.le_refl _
        · obtain ⟨rfl, rfl⟩ := y
          obtain ⟨rfl, _⟩ := fromTo_get hx
          exact ⟨F2, o.gr, fun _ _ => by show V.int ((a : Int) + (i : Int)) = V.int ((a + i : Nat) : Int); rw [Int.natCast_add]⟩⟩
theorem js_par3FMM {st : Stmt} {Rt : V → Hp → Hp → Prop} {Ra : V → Hp → Prop} {i j l : Nat} {Rm Rl : List V → Hp → Prop} (hij : i ≠ j) (hil : i ≠ l) (hjl : j ≠ l) (p : PS X st (tPar3 i j l (tCons (tE E G Ra) (tCons (tM E G Rm) (tCons (tM E G Rl) tNil))))) : PS X st (tS E G Rt (· = ((G.set i (.fz Ra)).set j (.mt Rm)).set l (.mt Rl))) := PS_imp p fun D σ H ⟨F, S, kn, kr⟩ =>
  ⟨F, S, fun v F0 H0 g0 u0 => ⟨F0, S.gr g0, fun q ws F1 H1 g1 n1 n2 n3 u1 => ⟨F1, S.gr (g0.trans g1), fun q' ws' F2 H2 g2 m1 m2 m3 u2 => ⟨v, .ref q, .ref q', rfl, by
    have nq : q ≠ q' := ne_of_none n3 m1
    have np : E.pp ≠ some q := fun z => by
      obtain ⟨_, x, y, h2, _⟩ := (S.gr g0).ok.p q z
      rw [n1] at h2
      cases h2
    have f2 : F2 q = none := by
      cases z : F2 q with
      | none => rfl
      | some o =>
        rcases g2.n q o z with w | w
        · rw [n2] at w; cases w
        · rw [n3] at w; cases w
    have S0 : Sat E (G.set i (.fz Ra)) (σ.set i (some v)) F2 H2 := (S.gr ((g0.trans g1).trans g2)).set_fz (u0.mono (g1.f.trans g2.f))
    have off : ∀ {k : Nat} {Rk : List V → Hp → Prop} {r : Addr}, (G.set i (.fz Ra))[k]? = some (.mt Rk) → (σ.set i (some v))[k]? = some (some (.ref r)) → G[k]? = some (.mt Rk) ∧ σ[k]? = some (some (.ref r)) := fun {k Rk r} hG hs => by
      by_cases z : k = i
      · subst z
        have hl : k < G.length := by
          have := (List.getElem?_eq_some_iff.mp hG).1
          simpa using this
        rw [List.getElem?_set_self hl] at hG
        cases hG
      · rw [List.getElem?_set_ne (Ne.symm z)] at hG hs
        exact ⟨hG, hs⟩
    have S1 := S0.set_mt (i := j) f2 ((S.gr g0).bs.back n1) (g2.k q _ n3 np) (u1.mono g2.f) fun k Rk hk hG hs => fresh_mt (S.gr g0) n1 (off hG hs).1 (off hG hs).2
    refine kn _ _ F2 H2 rfl (S1.set_mt m2 ((S.gr (g0.trans g1)).bs.back m1) m3 u2 fun k Rk hk hG hs => ?_) ((g0.trans g1).trans g2).f
    by_cases z : k = j
    · subst z
      have hl : k < (σ.set i (some v)).length := by
        have := (List.getElem?_eq_some_iff.mp hs).1
        simpa using this
      rw [List.getElem?_set_self hl] at hs
      cases hs
      exact nq rfl
    · rw [List.getElem?_set_ne (Ne.symm z)] at hG hs
      exact fresh_mt (S.gr (g0.trans g1)) m1 (off hG hs).1 (off hG hs).2⟩⟩⟩⟩
theorem js_asgSom {α : Type} {P : α → Prop} {R1 R2 : α → V → Hp → Prop} {st : Stmt} {Rt : V → Hp → Hp → Prop} {i j : Nat} {K : PySem.W.Frag} (p : PS X st (tAsg (tE E G (Som P (fun g => IsTp [R1 g, R2 g]))) (gTup K 2 (gCons (gName i) (gCons (gName j) gNil))))) : PS X st (tS E G Rt (fun G' => ∃ g, P g ∧ G' = (G.set i (.fz (R1 g))).set j (.fz (R2 g)))) := PS_imp p fun D σ H ⟨F, S, kn, kr⟩ =>
  ⟨F, S, fun v F1 H1 g1 u1 => by
    obtain ⟨g, pg, a, vs, rfl, ha, hu⟩ := u1.here
    have hu := hu.here
    cases hu with
    | cons r1 t1 =>
      cases t1 with
      | cons r2 t2 =>
        cases t2
        exact ⟨a, _, rfl, .inl (.inl ((S.gr g1).ok.s _ _ ha)), rfl, _, _, rfl, _, _, rfl, rfl, kn _ _ F1 H1 ⟨g, pg, rfl⟩ (((S.gr g1).set_fz r1).set_fz r2) g1.f⟩⟩
theorem rcm_list {α : Type} {Rx : α → V → Hp → Prop} {xs : List α} {K : PySem.W.Frag} {pp : Option Addr} : RCM pp (fun us H Q => ∃ p ys, us = [.ref p] ∧ (SqL K H p ys ∨ SqT K H p ys) ∧ ∀ l, H l = none → Q (.ref l) (upd H l (.lst ys))) [IsL Rx xs] (LsOf Rx xs) := fun vs F H Q ok a k => by
  cases a with
  | cons r t =>
    cases t
    obtain ⟨p, ys, rfl, h, u⟩ := r.here
    refine ⟨p, ys, rfl, .inl (SqL.of (ok.s _ _ h)), fun l hl => k l ys F _ (Gr.raw ok hl) hl ?_ upd_same u⟩
    cases e : F l with
    | none => rfl
    | some o => rw [ok.s _ _ e] at hl; cases hl
end
end Gw
set_option maxHeartbeats 4000000
namespace Gw
open PySem PySem.Spec PyProof.Rows L2
section
variable {X : Cx} {E : En} {G : List Sl} {e : Expr} {st : Stmt} {Rt : V → Hp → Hp → Prop} {K : PySem.W.Frag} {α : Type} [Inhabited α] {Rx : α → V → Hp → Prop}
/-- xs[a], xs[b] = xs[b], xs[a], xs of this def's own -/
theorem js_swap {i a b na nb : Nat} {xs : List α} (p : PS X st (tAsg (tTup (tCons (tOp (rIxL K) (tVar i) (tVar b)) (tCons (tOp (rIxL K) (tVar i) (tVar a)) tNil))) (gTup K 2 (gCons (gSub (tVar i) (tVar a) rSetL) (gCons (gSub (tVar i) (tVar b) rSetL) gNil)))))
    (h : G[i]? = some (.mt (LsOf Rx xs))) (ha : G[a]? = some (.fz (IsU na))) (hb : G[b]? = some (.fz (IsU nb))) (la : na < xs.length) (lb : nb < xs.length) : PS X st (tS E G Rt (· = G.set i (.mt (LsOf Rx ((xs.set na xs[nb]!).set nb xs[na]!))))) := PS_imp p fun D σ H ⟨F, S, kn, kr⟩ => by
  obtain ⟨p, vs, e1, h1, h2, h3, h4⟩ := S.mt i _ h
  obtain ⟨va, ea, ua⟩ := S.fz a _ ha
  obtain ⟨vb, eb, ub⟩ := S.fz b _ hb
  have qa : va = .int (na : Int) := ua.here
  have qb : vb = .int (nb : Int) := ub.here
  subst qa
  subst qb
  have hl := h4.here.len
  obtain ⟨xa, pa, wa⟩ := h4.here.get (i := na) (x := xs[na]!) (by rw [getElem!_pos xs na la, List.getElem?_eq_getElem la])
  obtain ⟨xb, pb, wb⟩ := h4.here.get (i := nb) (x := xs[nb]!) (by rw [getElem!_pos xs nb lb, List.getElem?_eq_getElem lb])
  refine ⟨.ref p, e1, .int (nb : Int), eb, p, vs, nb, xb, rfl, rfl, .inl (.inl h3), atI_nat pb, .ref p, e1, .int (na : Int), ea, p, vs, na, xa, rfl, rfl, .inl (.inl h3), atI_nat pa, by show 2 ≤ sizeLine; decide, fun t ht => ?_⟩
  have pt : p ≠ t := ne_of_none h3 ht
  have g3 := Gr.raw (o := HO.tup [xb, xa]) S.ok ht
  have S1 := S.gr g3
  have c3 : (upd H t (.tup [xb, xa])) p = some (.lst vs) := by rw [upd_ne pt]; exact h3
  refine ⟨t, [xb, xa], rfl, .inl (.inl upd_same), rfl, xb, [xa], rfl, .ref p, e1, .int (na : Int), ea, p, vs, na, na, rfl, rfl, c3, gw_ixN (by omega), ?_⟩
  have S2 := S1.turn (R' := LsOf Rx (xs.set na xs[nb]!)) (vs := vs.set na xb) h e1 (LsOf.up (paired_set h4.here wb na))
  refine ⟨xa, [], rfl, .ref p, e1, .int (nb : Int), eb, p, vs.set na xb, nb, nb, rfl, rfl, upd_same, gw_ixN (by rw [List.length_set]; omega), rfl, ?_⟩
  have hi : i < G.length := (List.getElem?_eq_some_iff.mp h).1
  have S3 := S2.turn (R' := LsOf Rx ((xs.set na xs[nb]!).set nb xs[na]!)) (vs := (vs.set na xb).set nb xa) (List.getElem?_set_self hi) e1 (LsOf.up (paired_set (paired_set h4.here wb na) wa nb))
  rw [List.set_set] at S3
  exact kn _ σ F _ rfl S3 (Ex.refl F)
/-- x = y, y a list of this def's own that is named no more -/
theorem js_move {i j : Nat} {R : List V → Hp → Prop} (hij : i ≠ j) (p : PS X st (tAsg (tVar j) (gName i))) (h : G[j]? = some (.mt R)) : PS X st (tS E G Rt (· = (G.set j .un).set i (.mt R))) := PS_imp p fun D σ H ⟨F, S, kn, kr⟩ => by
  obtain ⟨p, vs, e1, h1, h2, h3, h4⟩ := S.mt j _ h
  refine ⟨.ref p, e1, kn _ _ F H rfl ?_ (Ex.refl F)⟩
  have S1 : Sat E (G.set j .un) σ F H := S.weak (by rw [List.length_set]) fun k s' hk => by
    by_cases z : k = j
    · subst z
      have hl : k < G.length := (List.getElem?_eq_some_iff.mp h).1
      rw [List.getElem?_set_self hl] at hk
      cases hk
      exact ⟨_, h, .un⟩
    · rw [List.getElem?_set_ne (Ne.symm z)] at hk
      exact ⟨_, hk, Le.rfl' _⟩
  refine S1.set_mt h1 h2 h3 h4 fun k Rk hk hG hs => ?_
  by_cases z : k = j
  · subst z
    have hl : k < G.length := (List.getElem?_eq_some_iff.mp h).1
    rw [List.getElem?_set_self hl] at hG
    cases hG
  · rw [List.getElem?_set_ne (Ne.symm z)] at hG
    exact S.ap k j Rk R p z hG h hs e1
/-- xs, a, ys = new list, value, new list -/
theorem js_par3MFM {Ra : V → Hp → Prop} {i j l : Nat} {Rm Rl : List V → Hp → Prop} (hij : i ≠ j) (hil : i ≠ l) (hjl : j ≠ l) (p : PS X st (tPar3 i j l (tCons (tM E G Rm) (tCons (tE E G Ra) (tCons (tM E G Rl) tNil))))) : PS X st (tS E G Rt (· = ((G.set i (.mt Rm)).set j (.fz Ra)).set l (.mt Rl))) := PS_imp p fun D σ H ⟨F, S, kn, kr⟩ =>
  ⟨F, S, fun q ws F0 H0 g0 n1 n2 n3 u1 => ⟨F0, S.gr g0, fun v F1 H1 g1 u0 => ⟨F1, S.gr (g0.trans g1), fun q' ws' F2 H2 g2 m1 m2 m3 u2 => ⟨.ref q, v, .ref q', rfl, by
    have g12 := g1.trans g2
    have np : E.pp ≠ some q := fun z => by
      obtain ⟨_, x, y, h2, _⟩ := S.ok.p q z
      rw [n1] at h2
      cases h2
    have k1 := g1.k q _ n3 np
    have nq : q ≠ q' := ne_of_none k1 m1
    have f2 : F2 q = none := by
      cases z : F2 q with
      | none => rfl
      | some o =>
        rcases g12.n q o z with w | w
        · rw [n2] at w; cases w
        · rw [n3] at w; cases w
    have S0 : Sat E (G.set i (.mt Rm)) (σ.set i (some (.ref q))) F2 H2 := (S.gr (g0.trans g12)).set_mt f2 (S.bs.back n1) (g12.k q _ n3 np) (u1.mono g12.f) fun k Rk hk hG hs => fresh_mt S n1 hG hs
    have S1 := S0.set_fz (i := j) (u0.mono g2.f)
    refine kn _ _ F2 H2 rfl (S1.set_mt m2 ((S.gr (g0.trans g1)).bs.back m1) m3 u2 fun k Rk hk hG hs => ?_) (g0.trans g12).f
    by_cases z : k = j
    · subst z
      have hl : k < (G.set i (.mt Rm)).length := by
        have := (List.getElem?_eq_some_iff.mp hG).1
        simpa using this
      rw [List.getElem?_set_self hl] at hG
      cases hG
    · rw [List.getElem?_set_ne (Ne.symm z)] at hG hs
      by_cases z2 : k = i
      · subst z2
        have hl : k < σ.length := by
          have := (List.getElem?_eq_some_iff.mp hs).1
          simpa using this
        rw [List.getElem?_set_self hl] at hs
        cases hs
        exact nq rfl
      · rw [List.getElem?_set_ne (Ne.symm z2)] at hG hs
        exact fresh_mt (S.gr (g0.trans g1)) m1 hG hs⟩⟩⟩⟩
end
end Gw
set_option maxHeartbeats 4000000
namespace Gw
open PySem PySem.Spec PyProof.Rows L2
/-- what guessed_table asks -/
structure GtP (rows : List (List Rat)) (ws : List Rat) (gs : List (List (Rat × Rat))) : Prop where
  p : PropP rows
  w : WeiP rows.length ws
  gl : gs.length = rows.length
  g : ∀ g ∈ gs, GuessP g
  r : RowsOk rows.length rows ws
  s : ∀ s ∈ standR gs, SdOk rows.length s
  s8 : (standR gs).length ≤ 8
  s0 : 0 < (standR gs).length
  t : Conn (flowsR rows ws (standR gs)) → TbP ws (standR gs) (flowsR rows ws (standR gs))
def guessedR (rows : List (List Rat)) (ws : List Rat) (gs : List (List (Rat × Rat))) : List (List Rat) := tableR ws (standR gs) (flowsR rows ws (standR gs))
theorem flowsR_len (rows : List (List Rat)) (ws : List Rat) (ss : List St3) : (flowsR rows ws ss).length = ss.length := by simp [flowsR]
theorem flowsR_row {rows : List (List Rat)} {ws : List Rat} {ss : List St3} : ∀ r ∈ flowsR rows ws ss, r.length = (flowsR rows ws ss).length := by
  intro r hr
  rw [flowsR_len]
  unfold flowsR at hr
  obtain ⟨p, _, rfl⟩ := List.mem_map.mp hr
  simp
theorem jS {X : Cx} {E : En} {G : List Sl} {pos : Pos} {s : Str} {j : Nat} : PE X (.Constant (.str s) j pos) (tE E G (IsS s)) := je_c pe_str fun _ => rfl
theorem js_retQ {X : Cx} {E : En} {G : List Sl} {e : Expr} {pos : Pos} {R : V → Hp → Prop} {N : List Sl → Prop} {ok : Prop} (h : ok) (p : PE X e (tE E G R)) : PS X (.Return (some e) pos) (tS E G (fun v F _ => ok ∧ Up R v F) N) := PS_imp (ps_ret p) fun D σ H ⟨F, S, kn, kr⟩ => ⟨F, S, fun v F' H' g u => kr v F' H' (S.bs.trans g) ⟨h, u⟩⟩
section
variable {P : Program} {w : World} {K : PySem.W.Frag} {mg : Str → Option Value} {base : Heap} {C : Addr}
abbrev GtI : Type := List (List Rat) × List Rat × List (List (Rat × Rat))
abbrev sp_guessed_table (NW C : Addr) : Sp := PrX (ι := GtI) NW (fun w => [IsSNM C w.1, IsSN C w.2.1, IsSq (IsSG C) w.2.2]) (fun w => GtP w.1 w.2.1 w.2.2) (fun w => Conn (flowsR w.1 w.2.1 (standR w.2.2))) (fun w => IsQM C (guessedR w.1 w.2.1 w.2.2))
theorem ok_guessed_table {NW : Addr} (Z : Glo K mg C) (T : NwF K mg NW) (k_want_proposal : Kn_want_proposal P w K mg base C) (k_want_weights : Kn_want_weights P w K mg base C) (k_standings_of : Kn_standings_of P w K mg base C) (k_want_guesses : Kn_want_guesses P w K mg base C) (k_flows_of_standings : Kn_flows_of_standings P w K mg base C) (k_is_joined : Kn_is_joined P w K mg base C) (k_want_at_most : Kn_want_at_most P w K mg base C) (k_table_of_standings : Kn_table_of_standings P w K mg base C) {f : Addr} {fd : FuncData} (Fd : FnP K "guessed_table" st_guessed_table f fd) : FnOk P w K mg base (L2.CX P w) 10 f fd ["proposal", "weights", "guesses"] (sp_guessed_table NW C) := by
  refine fn_prX Fd sc_guessed_table (fun u => by first | rfl | (cases u <;> rfl)) (fun X u E hX hp hE tk => ?_)
  obtain ⟨cdv, A, outer, s, H, E', rfl, hr⟩ := hX
  have nd := (sc_guessed_table).nd
  replace hr : Room 9 (cxOf (L2.CX P w) P w K mg base N_guessed_table "guessed_table" (defScope st_guessed_table) f cdv A outer s H E').A := hr
  obtain ⟨rows, ws, gs⟩ := u
  have hp : GtP rows ws gs := hp
  obtain ⟨t8, g8⟩ := Z.stand
  have hp6 := hp.p.hi
  have hss := hp.s8
  refine js_seq (js_set (R := IsQM C rows) (ps_set (i := 3) nd rfl (.inl rfl) (jc k_want_proposal (hr.mono (by decide)) rows (ja_cons (jv 0) ja_nil) hp.p))) ?_
  refine js_seq (js_set (R := IsL (IsQ C) ws) (ps_set (i := 4) nd rfl (.inl rfl) (jc k_want_weights (hr.mono (by decide)) (ws, rows.length) (ja_cons (jbB call_len Z.len boot_len (ja_cons (jv 3 (R := IsQM C rows)) ja_nil) rc_len) (ja_cons (jv 1) ja_nil)) hp.w))) ?_
  refine js_seq (js_set (R := IsL (IsSd C) (standR gs)) (ps_set (i := 5) nd rfl (.inl rfl) (jc k_standings_of (hr.mono (by decide)) gs (ja_cons (jc k_want_guesses (hr.mono (by decide)) (gs, rows.length) (ja_cons (jbB call_len Z.len boot_len (ja_cons (jv 3 (R := IsQM C rows)) ja_nil) rc_len) (ja_cons (jv 2) ja_nil)) ⟨hp.gl, by show rows.length ≤ 1000; omega, hp.g⟩) ja_nil) ⟨by have := hp.gl; omega, fun g hg => (hp.g g hg).hi⟩))) ?_
  refine js_seq (js_set (R := IsQM C (flowsR rows ws (standR gs))) (ps_set (i := 6) nd rfl (.inl rfl) (jc k_flows_of_standings (hr.mono (by decide)) (rows, ws, standR gs) (ja_cons (jv 3) (ja_cons (jv 4) (ja_cons (jv 5) ja_nil))) ⟨rows.length, hp.r, by show (standR gs).length ≤ 100; omega, hp.s⟩))) ?_
  refine js_cons (N1 := fun G => Conn (flowsR rows ws (standR gs)) ∧ G = [.fz (IsSNM C rows), .fz (IsSN C ws), .fz (IsSq (IsSG C) gs), .fz (IsQM C rows), .fz (IsL (IsQ C) ws), .fz (IsL (IsSd C) (standR gs)), .fz (IsQM C (flowsR rows ws (standR gs)))]) (js_ifS (jts_not (jts_val (Pb := fun b => b = true ↔ Conn (flowsR rows ws (standR gs))) (pt_val (jc k_is_joined (hr.mono (by decide)) (flowsR rows ws (standR gs)) (ja_cons (jv 6) ja_nil) ⟨by rw [flowsR_len]; exact hp.s0, by rw [flowsR_len]; omega, flowsR_row⟩)))) (fun h => js_one (js_raise T rfl tk (fun c => absurd (h.mpr c) (by decide)))) (fun h => js_nil ⟨h.mp rfl, rfl⟩)) ?_
  rintro _ ⟨hc, rfl⟩
  refine js_seq (js_expr (jc k_want_at_most (hr.mono (by decide)) ("standings", 8, ((standR gs).length : Int)) (ja_cons jS (ja_cons (jgI g8) (ja_cons (jbB call_len Z.len boot_len (ja_cons (jv 5 (R := IsL (IsSd C) (standR gs))) ja_nil) rc_len) ja_nil))) (by show ((standR gs).length : Int) ≤ 8; omega))) ?_
  exact js_one (js_retQ hc (jc k_table_of_standings hr (ws, standR gs, flowsR rows ws (standR gs)) (ja_cons (jv 4) (ja_cons (jv 5) (ja_cons (jv 6) ja_nil))) (hp.t hc)))
end
end Gw
set_option maxHeartbeats 4000000
namespace Gw
open PySem PySem.Spec PyProof.Rows L2
section
variable {P : Program} {w : World} {K : PySem.W.Frag} {mg : Str → Option Value} {base : Heap} {C : Addr}
/-! ### the law's pot, at the bare layer -/
def spDraw : Sp := fun vs H Q _ => ∃ (q : Addr) (x y z : Int), vs = [.ref q, .int z] ∧ H q = some (.lst [.int x, .int y]) ∧ 0 ≤ x ∧ 0 ≤ y ∧ y < 2 ^ 40 ∧ 0 < z ∧ z < 2 ^ 30 ∧
  ∀ (d x' y' : Int) (H' : Hp), 0 ≤ d → d < z → 0 ≤ x' → 0 ≤ y' → y' < 2 ^ 40 → H' q = some (.lst [.int x', .int y']) → (∀ a o, a ≠ q → H a = some o → H' a = some o) → Q (.int d) H'
theorem ok_draw0 (Z : Glo K mg C) {f : Addr} {fd : FuncData} (Fd : FnP K "_law_draw" st__law_draw f fd) : FnOk P w K mg base CX0 1 f fd ["pot", "size"] spDraw := by
  refine Fd.ok sc__law_draw (fun vs H Q E h => ?_) (fun cdv A outer s H vs Q E hr h => ?_)
  · obtain ⟨q, x, y, z, rfl, _⟩ := h
    rfl
  · have nd := sc__law_draw.nd
    refine ⟨_, PSs.nox (pss_cons (ps_if (pt_cmpR op_gt (pe_ix ix_list (pv 0) pe_int (fun _ _ => rfl)) pe_int (nomark _)) (pss_cons (ps_asg (pe_callB call_divmod rfl Z.divmod boot_divmod (pa_cons (pe_ix ix_list (pv 0) pe_int (fun _ _ => rfl)) (pa_cons (pv 1) pa_nil))) (pg_tup rfl (pgs_cons (pg_sub (pv 0) pe_int set_list) (pgs_cons (gN 2 nd) pgs_nil)))) (pss_one (ps_ret (pv 2)))) pss_nil)
      (pss_cons (ps_asg (pe_op op_mod (pe_callTy call_int1 rfl Z.int boot_int (pa_cons (pe_op op_add (pe_op op_mulW (pe_ix ix_list (pv 0) pe_int (fun _ _ => rfl)) pe_int) pe_int) pa_nil)) pe_int) (pg_sub (pv 0) pe_int set_list))
        (pss_one (ps_ret (pe_op op_mod (pe_callTy call_int1 rfl Z.int boot_int (pa_cons (pe_op op_fdiv (pe_op op_mod (pe_callTy call_int1 rfl Z.int boot_int (pa_cons (pe_op op_mulW (pe_ix ix_list (pv 0) pe_int (fun _ _ => rfl)) (pe_ix ix_list (pv 0) pe_int (fun _ _ => rfl))) pa_nil)) pe_int) pe_int) pa_nil)) (pv 1)))))), ?_⟩
    obtain ⟨q, x, y, z, rfl, hq, hx, hy, hy2, hz, hz2, kq⟩ := h
    have h0 : atI [V.int x, V.int y] 0 = some (.int x) := rfl
    have h1 : atI [V.int x, V.int y] 1 = some (.int y) := rfl
    refine ⟨_, rfl, q, [.int x, .int y], 0, .int x, rfl, rfl, .inl (.inl hq), h0, x, 0, rfl, rfl, decide (0 < x), rfl, ?_⟩
    by_cases hx0 : 0 < x
    · rw [decide_eq_true hx0]
      show (if true = true then _ else _)
      rw [if_pos rfl]
      refine ⟨_, rfl, q, [.int x, .int y], 0, .int x, rfl, rfl, .inl (.inl hq), h0, _, rfl, x, z, rfl, ⟨hz, hz2⟩, fun p hp => ?_⟩
      have ne : q ≠ p := ne_of_none hq hp
      refine ⟨p, _, rfl, .inl (.inl upd_same), rfl, _, _, rfl, _, rfl, q, [.int x, .int y], 0, 0, rfl, rfl, by rw [upd_ne ne]; exact hq, rfl, _, _, rfl, rfl, _, rfl, ?_⟩
      refine kq (x % z) (x / z) y _ (Int.emod_nonneg _ (by omega)) (Int.emod_lt_of_pos _ hz) (Int.ediv_nonneg hx (by omega)) hy hy2 (by rw [upd_same]; rfl) (fun a o ha h => ?_)
      rw [upd_ne ha, upd_ne (ne_of_none h hp)]
      exact h
    · rw [decide_eq_false hx0]
      show (if false = true then _ else _)
      rw [if_neg (by decide)]
      have m0 : (0 : Int) ≤ (y * 40531 + 31063) % 2147483579 := Int.emod_nonneg _ (by decide)
      have m1 : (y * 40531 + 31063) % 2147483579 < 2147483579 := Int.emod_lt_of_pos _ (by decide)
      refine ⟨_, rfl, q, [.int x, .int y], 1, .int y, rfl, rfl, .inl (.inl hq), h1, y, 40531, rfl, rfl, mulW_of (n := 40) (m := 40) (by omega) (by decide) (by decide) (by decide) (by decide), _, _, rfl, rfl, .inl ⟨_, rfl, _, _, rfl, rfl, (by show (0 : Int) < 2147483579; decide), ?_⟩⟩
      refine ⟨_, rfl, q, [.int x, .int y], 1, 1, rfl, rfl, hq, rfl, ?_⟩
      obtain ⟨y2, he⟩ : ∃ y2, y2 = (y * 40531 + 31063) % 2147483579 := ⟨_, rfl⟩
      rw [← he] at m0 m1
      have g0 : atI [V.int x, V.int y2] 1 = some (.int y2) := rfl
      have gq : ∀ o, o = [V.int x, V.int y2] → (upd H q (.lst o)) q = some (.lst [V.int x, V.int y2]) := fun o e => by rw [e, upd_same]
      have n0 : (0 : Int) ≤ (y2 * y2) % 2147483477 / 23 := Int.ediv_nonneg (Int.emod_nonneg _ (by decide)) (by decide)
      refine ⟨_, rfl, q, [.int x, .int y2], 1, .int y2, rfl, rfl, .inl (.inl (gq _ (by rw [he]; rfl))), g0, _, rfl, q, [.int x, .int y2], 1, .int y2, rfl, rfl, .inl (.inl (gq _ (by rw [he]; rfl))), g0, y2, y2, rfl, rfl, mulW_of (n := 40) (m := 40) (by omega) (by omega) (by decide) (by decide) (by decide), .inl ⟨_, rfl, _, _, rfl, rfl, (by show (0 : Int) < 2147483477; decide), _, _, rfl, rfl, ⟨by decide, by decide⟩, .inl ⟨_, rfl, _, rfl, _, _, rfl, rfl, hz, ?_⟩⟩⟩
      exact kq _ x y2 _ (Int.emod_nonneg _ (by omega)) (Int.emod_lt_of_pos _ hz) hx m0 (by omega) (gq _ (by rw [he]; rfl)) (fun a o ha h => by rw [upd_ne ha]; exact h)
abbrev sp__law_draw (_ : Addr) : Sp := PrP (ι := Nat) (fun n => [IsU n]) (fun n => 0 < n ∧ n < 1000) (fun n => Som (fun d : Nat => d < n) IsU)
theorem ok__law_draw (Z : Glo K mg C) {f : Addr} {fd : FuncData} (Fd : FnP K "_law_draw" st__law_draw f fd) : FnOk P w K mg base CX0 1 f fd ["pot", "size"] (sp__law_draw C) := by
  refine (ok_draw0 Z Fd).imp fun vs H Q E h => ?_
  obtain ⟨F, q, us, n, rfl, ok, a, ⟨hn, hn2⟩, kq⟩ := h
  cases a with
  | cons r t =>
    cases t
    obtain ⟨hF, x, y, hq, hx, hy, hy2⟩ := ok.p q rfl
    refine ⟨q, x, y, n, by rw [show _ = V.int (n : Int) from r.here], hq, hx, hy, hy2, by omega, by omega, fun d x' y' H' h1 h2 h3 h4 h5 h6 h7 => ?_⟩
    refine kq (.int d) F H' ?_ (fun F' _ => ⟨d.toNat, by omega, by show V.int d = V.int ((d.toNat : Nat) : Int); congr 1; omega⟩)
    exact {
      f := Ex.refl F
      s := fun a o h => h7 a o (fun e => by rw [e, hF] at h; cases h) (ok.s a o h)
      k := fun a o h hp => h7 a o (fun e => hp (by rw [e])) h
      n := fun a o h => .inl h
      p := fun a ha => by
        cases ha
        exact ⟨hF, x', y', h6, h3, h4, h5⟩ }
abbrev Kn__law_draw (P : Program) (w : World) (K : PySem.W.Frag) (mg : Str → Option Value) (base : Heap) (C : Addr) : Prop := Kn P w K mg base "_law_draw" 1 ["pot", "size"] (sp__law_draw C)
/-! ### the script -/
def IsScr (K : PySem.W.Frag) (ns : List Int) (v : V) (F : Hp) : Prop := ∃ a, v = .ref a ∧ SqL K F a (ns.map V.int)
theorem sql_ex {K : PySem.W.Frag} {F F' : Hp} {a : Addr} {xs : List V} (h : SqL K F a xs) (e : Ex F F') : SqL K F' a xs := by
  rcases h with h | h
  · rcases h with h | ⟨o, h⟩
    · exact .inl (.inl (e _ _ h))
    · exact .inl (.inr ⟨o, e _ _ h⟩)
  · exact .inr h
theorem rc_lenScr {K : PySem.W.Frag} {pp : Option Addr} {ns : List Int} : RC pp (fun us H Q => ∃ x n, us = [x] ∧ LenV K x H n ∧ Q (.int n) H) [IsScr K ns] (IsI (ns.length : Int)) := fun vs F H Q ok a k => by
  cases a with
  | cons r t =>
    cases t
    obtain ⟨p, rfl, h⟩ := r.here
    exact ⟨_, ns.length, rfl, .inl ⟨_, sql_ex h ok.s, by rw [List.length_map]⟩, k _ F H ok.gr fun F' _ => rfl⟩
theorem rop_ixScr {K : PySem.W.Frag} {pp : Option Addr} {ns : List Int} {j : Nat} (h : j < ns.length) : ROp pp (rIxL K) (IsScr K ns) (IsI (j : Int)) (IsI ns[j]!) := fun x y F H Q ok u1 u2 k => by
  obtain ⟨p, rfl, hs⟩ := u1.here
  rw [u2.here]
  exact ⟨p, _, _, .int ns[j]!, rfl, rfl, sql_ex hs ok.s, atI_nat (by rw [List.getElem?_map, List.getElem?_eq_getElem h, getElem!_pos ns j h]; rfl), k _ F H ok.gr fun F' _ => rfl⟩
theorem rop_pow {pp : Option Addr} {i j : Int} (h : CPow i j) : ROp pp (rI CPow fun i j => .int (i ^ j.toNat)) (IsI i) (IsI j) (IsI (i ^ j.toNat)) := rop_C h fun _ => rfl
def PotV (vs : List V) (_ : Hp) : Prop := ∃ x y : Int, vs = [.int x, .int y] ∧ 0 ≤ x ∧ 0 ≤ y ∧ y < 2 ^ 40
abbrev sp__law_pot (K : PySem.W.Frag) : Sp := PrM (ι := List Int) (fun ns => [IsScr K ns, IsI 0]) (fun _ => True) (fun _ => PotV)
theorem ok__law_pot (Z : Glo K mg C) {f : Addr} {fd : FuncData} (Fd : FnP K "_law_pot" st__law_pot f fd) : FnOk P w K mg base CX0 1 f fd ["script", "k"] (sp__law_pot K) := by
  refine fn_prM Fd sc__law_pot (fun u => rfl) (fun X u E hX hp hE => ?_)
  obtain ⟨cdv, A, outer, s, H, E', rfl, hr⟩ := hX
  refine PSs.nox ?_
  have nd := sc__law_pot.nd
  rename List Int => ns
  refine js_seq (js_set (R := Som (fun c : Int => 0 ≤ c) IsI) (ps_set (i := 2) nd rfl (.inl rfl) (je_if (b1 := decide ((0 : Int) < (ns.length : Int))) (jt_cmp (pt_cmpR op_lt (jv 1 (R := IsI 0)) (jbB call_len Z.len boot_len (ja_cons (jv 0 (R := IsScr K ns)) ja_nil) rc_lenScr) (nomark _)) rop_lt) (fun h => je_conv (jbB call_abs Z.abs boot_abs (ja_cons (je_op (pe_ix ix_list (jv 0 (R := IsScr K ns)) (jv 1 (R := IsI ((0 : Nat) : Int))) (fun _ _ => rfl)) (rop_ixScr ?_)) ja_nil) rc_abs) (fun v F h => ⟨_, ?_, h⟩)) (fun h => je_conv (je_op (pe_op op_add (je_op (pe_op op_mulW jI (jv 1 (R := IsI 0))) (rop_mulW (mulW_of (n := 20) (m := 20) (by decide) (by decide) (by decide) (by decide) (by decide)))) jI) rop_add) (fun v F h => ⟨_, ?_, h⟩))))) ?_
  · have h := of_decide_eq_true h
    omega
  · split <;> omega
  · decide
  refine js_open (i := 2) (P := fun c : Int => 0 ≤ c) (R := IsI) rfl (fun _ _ _ _ h _ => h) (fun c hc => ?_)
  have m0 : (0 : Int) ≤ c % 2147483477 := Int.emod_nonneg _ (by decide)
  have m1 : c % 2147483477 < 2147483477 := Int.emod_lt_of_pos _ (by decide)
  refine js_one (js_retM (jm_conv (jm_lst (Rs := [IsI (if c - 10 ^ 18 > 0 then c - 10 ^ 18 else 0), IsI ((c % 2147483477 * 41201 + 6869 * 0 + 613) % 2147483579 + 1)]) (pe_lst (ja_cons (jbB (call_max2 rfl) Z.max boot_max (ja_cons jI (ja_cons (je_op (pe_op op_sub (jv 2 (R := IsI c)) (je_eq (je_op (pe_op op_pow jI jI) (rop_pow (i := 10) (j := 18) ⟨by decide, by decide, by decide⟩)) (R' := IsI (10 ^ 18)) rfl)) rop_sub) ja_nil)) rc_max2) (ja_cons (je_op (pe_op op_add (je_op (pe_op op_mod (jbT call_int1 Z.int boot_int (ja_cons (je_op (pe_op op_add (je_op (pe_op op_add (je_op (pe_op op_mulW (je_op (pe_op op_mod (jbT call_int1 Z.int boot_int (ja_cons (jv 2 (R := IsI c)) ja_nil) rc_intI) jI) (rop_mod (by decide))) jI) (rop_mulW ?_)) (je_op (pe_op op_mulW jI (jv 1 (R := IsI 0))) (rop_mulW (mulW_of (n := 20) (m := 20) (by decide) (by decide) (by decide) (by decide) (by decide))))) rop_add) jI) rop_add) ja_nil) rc_intI) jI) (rop_mod (by decide))) jI) rop_add) ja_nil)))) (fun vs F a => ?_)))
  · exact mulW_of (n := 40) (m := 40) (by omega) (by decide) (by decide) (by decide) (by decide)
  · cases a with
    | cons r t =>
      cases t with
      | cons r2 t2 =>
        cases t2
        have n0 : (0 : Int) ≤ (c % 2147483477 * 41201 + 6869 * 0 + 613) % 2147483579 := Int.emod_nonneg _ (by decide)
        have n1 : (c % 2147483477 * 41201 + 6869 * 0 + 613) % 2147483579 < 2147483579 := Int.emod_lt_of_pos _ (by decide)
        refine ⟨_, _, by rw [show _ = V.int _ from r.here, show _ = V.int _ from r2.here], ?_, by omega, by omega⟩
        split <;> omega
/-! ### picks -/
def PickK (Rs : List (V → Hp → Prop)) (v : V) (F : Hp) : Prop := ∃ R, R ∈ Rs ∧ R v F
abbrev sp__law_pick (_ : Addr) : Sp := PrP (ι := Bool × List (V → Hp → Prop)) (fun w => [if w.1 then LstOf (Args w.2) else TupOf (Args w.2)]) (fun w => 0 < w.2.length ∧ w.2.length < 1000 ∧ ∀ R ∈ w.2, Mo R) (fun w => PickK w.2)
theorem pick_at {Rs : List (V → Hp → Prop)} {vs : List V} {F : Hp} {d : Nat} (a : Args Rs vs F) (h : d < Rs.length) : ∃ v, vs[d]? = some v ∧ PickK Rs v F := by
  obtain ⟨v, hv, u⟩ := Args.get a (List.getElem?_eq_getElem h)
  exact ⟨v, hv, Rs[d], List.getElem_mem h, u.here⟩
theorem mo_pick {Rs : List (V → Hp → Prop)} (h : ∀ R ∈ Rs, Mo R) : Mo (PickK Rs) := fun v F F' ⟨R, hR, r⟩ e => ⟨R, hR, h R hR v F F' r e⟩
theorem rop_pickL {K : PySem.W.Frag} {pp : Option Addr} {Rs : List (V → Hp → Prop)} (hm : ∀ R ∈ Rs, Mo R) : ROp pp (rIxL K) (LstOf (Args Rs)) (Som (fun d : Nat => d < Rs.length) IsU) (PickK Rs) := fun x y F H Q ok u1 u2 k => by
  obtain ⟨p, vs, rfl, hp, u⟩ := u1.here
  obtain ⟨d, hd, e⟩ := u2.here
  obtain ⟨v, hv, pk⟩ := pick_at u.here hd
  rw [show _ = V.int (d : Int) from e]
  exact ⟨p, vs, d, v, rfl, rfl, .inl (.inl (ok.s _ _ hp)), atI_nat hv, k v F H ok.gr ((mo_pick hm).up pk)⟩
theorem rop_pickT {K : PySem.W.Frag} {pp : Option Addr} {Rs : List (V → Hp → Prop)} (hm : ∀ R ∈ Rs, Mo R) : ROp pp (rIxT K) (TupOf (Args Rs)) (Som (fun d : Nat => d < Rs.length) IsU) (PickK Rs) := fun x y F H Q ok u1 u2 k => by
  obtain ⟨p, vs, rfl, hp, u⟩ := u1.here
  obtain ⟨d, hd, e⟩ := u2.here
  obtain ⟨v, hv, pk⟩ := pick_at u.here hd
  rw [show _ = V.int (d : Int) from e]
  exact ⟨p, vs, d, v, rfl, rfl, .inl (.inl (ok.s _ _ hp)), atI_nat hv, k v F H ok.gr ((mo_pick hm).up pk)⟩
theorem rc_lenAr {K : PySem.W.Frag} {pp : Option Addr} {Rs : List (V → Hp → Prop)} : RC pp (fun us H Q => ∃ x n, us = [x] ∧ LenV K x H n ∧ Q (.int n) H) [LstOf (Args Rs)] (IsU Rs.length) := fun vs F H Q ok a k => by
  cases a with
  | cons r t =>
    cases t
    obtain ⟨p, ws, rfl, hp, u⟩ := r.here
    exact ⟨_, Rs.length, rfl, .inl ⟨_, .inl (.inl (ok.s _ _ hp)), u.here.len⟩, k _ F H ok.gr fun F' _ => rfl⟩
abbrev Kn__law_pick (P : Program) (w : World) (K : PySem.W.Frag) (mg : Str → Option Value) (base : Heap) (C : Addr) : Prop := Kn P w K mg base "_law_pick" 2 ["pot", "some"] (sp__law_pick C)
theorem ok__law_pick (Z : Glo K mg C) (k__law_draw : Kn__law_draw P w K mg base C) {f : Addr} {fd : FuncData} (Fd : FnP K "_law_pick" st__law_pick f fd) : FnOk P w K mg base CX0 2 f fd ["pot", "some"] (sp__law_pick C) := by
  refine fn_prP Fd sc__law_pick (fun u => by first | rfl | (cases u <;> rfl)) (by decide) (fun X u E hX hp => ?_)
  obtain ⟨cdv, A, outer, s, H, E', rfl, hr⟩ := hX
  refine PSs.nox ?_
  have nd := (sc__law_pick).nd
  replace hr : Room 1 (cxOf CX0 P w K mg base N__law_pick "_law_pick" (defScope st__law_pick) f cdv A outer s H E').nox.A := hr
  obtain ⟨b, Rs⟩ := u
  obtain ⟨h0, h1, hm⟩ := hp
  have h0 : 0 < Rs.length := h0
  have h1 : Rs.length < 1000 := h1
  have hm : ∀ R ∈ Rs, Mo R := hm
  cases b with
  | true => exact js_one (js_ret (je_op (pe_ix ix_list (jv 1 (R := LstOf (Args Rs))) (jcP k__law_draw hr ⟨0, rfl⟩ Rs.length (ja_pot (pv 0) rfl (ja_cons (jbB call_len Z.len boot_len (ja_cons (jv 1 (R := LstOf (Args Rs))) ja_nil) rc_lenAr) ja_nil)) ⟨h0, h1⟩) (fun _ _ => rfl)) (rop_pickL hm)))
  | false => exact js_one (js_ret (je_op (pe_ix ix_tup (jv 1 (R := TupOf (Args Rs))) (jcP k__law_draw hr ⟨0, rfl⟩ Rs.length (ja_pot (pv 0) rfl (ja_cons (jbB call_len Z.len boot_len (ja_cons (jv 1 (R := TupOf (Args Rs))) ja_nil) rc_lenTp) ja_nil)) ⟨h0, h1⟩) (fun _ _ => rfl)) (rop_pickT hm)))
end
end Gw
set_option maxHeartbeats 4000000
namespace Gw
open PySem PySem.Spec PyProof.Rows L2
def sumN (xs : List Nat) : Int := (xs.map fun (n : Nat) => (n : Int)).sum
/-- a drawn row, as Ratios -/
def rowQ (xs : List Nat) : List Rat := xs.map fun (x : Nat) => Rat.divInt (x : Int) (sumN xs)
structure DrR (n : Nat) (xs : List Nat) : Prop where
  l : xs.length = n
  le : ∀ x ∈ xs, x ≤ 2
  s : sumN xs ≠ 0
theorem sumN_le {xs : List Nat} (h : ∀ x ∈ xs, x ≤ 2) : 0 ≤ sumN xs ∧ sumN xs ≤ 2 * xs.length := by
  unfold sumN
  induction xs with
  | nil => simp
  | cons x xs ih =>
    have h1 := ih (fun y hy => h y (by simp [hy]))
    have h2 := h x (by simp)
    rw [List.map_cons, List.sum_cons, List.length_cons]
    constructor <;> omega
theorem sumN_mem {xs : List Nat} {x : Nat} (h : x ∈ xs) : (x : Int) ≤ sumN xs := by
  unfold sumN
  induction xs with
  | nil => simp at h
  | cons y ys ih =>
    rw [List.map_cons, List.sum_cons]
    have h0 : ∀ l : List Nat, (0 : Int) ≤ (l.map fun (n : Nat) => (n : Int)).sum := by
      intro l
      induction l with
      | nil => simp
      | cons a l ih => rw [List.map_cons, List.sum_cons]; omega
    have := h0 ys
    rcases List.mem_cons.mp h with e | e
    · subst e; omega
    · have := ih e; omega
section
variable {P : Program} {w : World} {K : PySem.W.Frag} {mg : Str → Option Value} {base : Heap} {C : Addr}
abbrev sp__law_weights (_ : Addr) : Sp := PrP (ι := Nat) (fun n => [IsU n]) (fun n => n ≤ 10) (fun n => Som (fun ws : List Nat => ws.length = n ∧ ∀ x ∈ ws, 1 ≤ x ∧ x ≤ 4) (fun ws => IsL IsU ws))
abbrev Kn__law_weights (P : Program) (w : World) (K : PySem.W.Frag) (mg : Str → Option Value) (base : Heap) (C : Addr) : Prop := Kn P w K mg base "_law_weights" 2 ["pot", "places"] (sp__law_weights C)
theorem ok__law_weights (Z : Glo K mg C) (k__law_draw : Kn__law_draw P w K mg base C) {f : Addr} {fd : FuncData} (Fd : FnP K "_law_weights" st__law_weights f fd) : FnOk P w K mg base CX0 2 f fd ["pot", "places"] (sp__law_weights C) := by
  refine fn_prP Fd sc__law_weights (fun u => by first | rfl | (cases u <;> rfl)) (by decide) (fun X u E hX hp => ?_)
  obtain ⟨cdv, A, outer, s, H, E', rfl, hr⟩ := hX
  refine PSs.nox ?_
  have nd := (sc__law_weights).nd
  replace hr : Room 1 (cxOf CX0 P w K mg base N__law_weights "_law_weights" (defScope st__law_weights) f cdv A outer s H E').nox.A := hr
  rename Nat => n
  have hp : n ≤ 10 := hp
  refine js_seq (js_setM (Rm := SomM (fun ws : List Nat => ws.length = 0 ∧ ∀ x ∈ ws, 1 ≤ x ∧ x ≤ 4) (LsOf IsU)) (ps_set (i := 2) nd rfl (.inl rfl) (jm_conv (jm_ls (R := IsU) [] (jm_lst (pe_lst ja_nil))) (fun vs F h => ⟨[], ⟨rfl, fun x h => by simp at h⟩, h⟩)))) ?_
  refine js_cons (N1 := fun G => ∃ s, G = [.pot, .fz (IsU n), .mt (SomM (fun ws : List Nat => ws.length = n ∧ ∀ x ∈ ws, 1 ≤ x ∧ x ≤ 4) (LsOf IsU)), s]) (js_for PassesOwn.never rfl (ji_rangeN (n := n) (by omega) (pi_range1 rfl Z.range (ja_cons (jv 1 (R := IsU n)) ja_nil))) (fun x => jg1 3 nd) (fun i G => ∃ s, G = [.pot, .fz (IsU n), .mt (SomM (fun ws : List Nat => ws.length = i ∧ ∀ x ∈ ws, 1 ≤ x ∧ x ≤ 4) (LsOf IsU)), s]) ⟨_, rfl⟩ ?_ (fun G1 h => by rwa [List.length_range] at h)) ?_
  · rintro i p G1 hi ⟨s, rfl⟩
    have hin : i < n := by have := (List.getElem?_eq_some_iff.mp hi).1; simpa using this
    refine js_one (js_N (js_append (i := 2) (R := Som (fun d : Nat => 1 ≤ d ∧ d ≤ 4) IsU) (Rm' := SomM (fun ws : List Nat => ws.length = i + 1 ∧ ∀ x ∈ ws, 1 ≤ x ∧ x ≤ 4) (LsOf IsU)) (ps_expr (pe_bm PySem.F.plainAttrs_list PySem.F.slot_list_append PySem.F.type_list_append mt_append (pv 2) (pa_cons (je_op (pe_op op_add jI (jcP k__law_draw hr ⟨0, rfl⟩ 4 (ja_pot (pv 0) rfl (ja_cons jI ja_nil)) ⟨by decide, by decide⟩)) (rop_somR (fun _ => mo_I) fun d hd => rop_to rop_add fun v F h => ⟨1 + d, ⟨by omega, by have : d < 4 := hd; omega⟩, by rw [h]; show V.int _ = V.int _; congr 1⟩)) pa_nil))) rfl (fun vs v F a b => ?_) (fun vs F a => ?_)) ?_)
    · obtain ⟨ws, ⟨h1, h2⟩, h3⟩ := a.here
      obtain ⟨d, hd, e⟩ := b.here
      refine fun F' e' => ⟨ws ++ [d], ⟨by rw [List.length_append, h1]; rfl, fun x hx => ?_⟩, (h3.snoc (fun _ _ => e)).up F' e'⟩
      rcases List.mem_append.mp hx with q | q
      · exact h2 x q
      · have : x = d := by simpa using q
        rw [this]; exact hd
    · obtain ⟨ws, ⟨h1, h2⟩, h3⟩ := a
      rw [← h3.len, h1]
      exact line_of (m := 1000) (by omega)
    · rintro G' rfl
      exact ⟨_, rfl⟩
  · rintro _ ⟨s, rfl⟩
    refine js_openM (i := 2) rfl (fun x vs F F' h e => h.up F' e) (fun ws hw => ?_)
    exact js_one (js_retc (js_retV (pv 2) rfl) fun v F h => ⟨ws, hw, h⟩)
abbrev sp__law_proposal (C : Addr) : Sp := PrPM (ι := Nat) (fun n => [IsU n]) (fun n => 1 ≤ n ∧ n ≤ 10) (fun n => SomM (fun A : List (List Nat) => A.length = n ∧ ∀ r ∈ A, DrR n r) (fun A => LsOf (IsL (IsQ C)) (A.map rowQ)))
abbrev Kn__law_proposal (P : Program) (w : World) (K : PySem.W.Frag) (mg : Str → Option Value) (base : Heap) (C : Addr) : Prop := Kn P w K mg base "_law_proposal" 4 ["pot", "places"] (sp__law_proposal C)
theorem ok__law_proposal (Z : Glo K mg C) (k__law_draw : Kn__law_draw P w K mg base C) (mk : Mkr P w K mg base C 2) {f : Addr} {fd : FuncData} (Fd : FnP K "_law_proposal" st__law_proposal f fd) : FnOk P w K mg base CX0 4 f fd ["pot", "places"] (sp__law_proposal C) := by
  refine fn_prPM Fd sc__law_proposal (fun u => by first | rfl | (cases u <;> rfl)) (by decide) (fun X u E hX hp => ?_)
  obtain ⟨cdv, A, outer, s, H, E', rfl, hr⟩ := hX
  refine PSs.nox ?_
  have nd := (sc__law_proposal).nd
  replace hr : Room 3 (cxOf CX0 P w K mg base N__law_proposal "_law_proposal" (defScope st__law_proposal) f cdv A outer s H E').nox.A := hr
  rename Nat => n
  have hn1 : 1 ≤ n := hp.1
  have hn : n ≤ 10 := hp.2
  refine js_seq (js_parMF (i := 2) (j := 3) (Rm := SomM (fun A : List (List Nat) => A.length = 0 ∧ ∀ r ∈ A, DrR n r) (fun A => LsOf (IsL (IsQ C)) (A.map rowQ))) (Rb := Som (fun l : Nat => l = 0 ∨ l = 1) IsU) (by decide) (ps_par (i := 2) (j := 3) rfl nd rfl rfl (by decide) rfl rfl (pa_cons (jm_conv (jm_ls (R := IsL (IsQ C)) [] (jm_lst (pe_lst ja_nil))) (fun vs F h => ⟨[], ⟨rfl, fun x h => by simp at h⟩, h⟩)) (pa_cons (je_ifS (Pb := fun _ => True) (jts_cmp (pt_cmpR op_eq (jcP k__law_draw (hr.mono (by decide)) ⟨0, rfl⟩ 4 (ja_pot (pv 0) rfl (ja_cons jI ja_nil)) ⟨by decide, by decide⟩) jI (nomark _)) (rop_somL (fun _ => mo_I) fun d _ => rop_to rop_eqI fun v F h => ⟨_, trivial, h⟩)) (fun _ => je_conv jI (fun v F h => ⟨0, .inl rfl, h⟩)) (fun _ => je_conv jI (fun v F h => ⟨1, .inr rfl, h⟩))) pa_nil)) rfl)) ?_
  refine js_open (i := 3) (P := fun l : Nat => l = 0 ∨ l = 1) (R := IsU) rfl (fun _ _ _ _ h _ => h) (fun l hl => ?_)
  refine js_cons (N1 := fun G => G = [.pot, .fz (IsU n), .mt (SomM (fun A : List (List Nat) => A.length = n ∧ ∀ r ∈ A, DrR n r) (fun A => LsOf (IsL (IsQ C)) (A.map rowQ))), .fz (IsU l), .un, .un, .un, .un]) (js_for PassesOwn.never rfl (ji_rangeN (n := n) (by omega) (pi_range1 rfl Z.range (ja_cons (jv 1 (R := IsU n)) ja_nil))) (fun x => jg1 4 nd) (fun i G => G = [.pot, .fz (IsU n), .mt (SomM (fun A : List (List Nat) => A.length = i ∧ ∀ r ∈ A, DrR n r) (fun A => LsOf (IsL (IsQ C)) (A.map rowQ))), .fz (IsU l), .un, .un, .un, .un]) rfl ?_ (fun G1 h => by rwa [List.length_range] at h)) ?_
  · rintro i p G1 hi rfl
    have hin : i < n := by have := (List.getElem?_eq_some_iff.mp hi).1; simpa using this
    have hpn : p < n := by
      have := List.mem_of_getElem? hi
      exact List.mem_range.mp this
    refine js_seq (js_setM (i := 5) (Rm := SomM (fun xs : List Nat => xs.length = 0 ∧ ∀ x ∈ xs, x ≤ 2) (LsOf IsU)) (ps_set (i := 5) nd rfl (.inr rfl) (jm_conv (jm_ls (R := IsU) [] (jm_lst (pe_lst ja_nil))) (fun vs F h => ⟨[], ⟨rfl, fun x h => by simp at h⟩, h⟩)))) ?_
    refine js_cons (N1 := fun G => ∃ s, G = [.pot, .fz (IsU n), .mt (SomM (fun A : List (List Nat) => A.length = i ∧ ∀ r ∈ A, DrR n r) (fun A => LsOf (IsL (IsQ C)) (A.map rowQ))), .fz (IsU l), .fz (IsU p), .mt (SomM (fun xs : List Nat => xs.length = n ∧ ∀ x ∈ xs, x ≤ 2) (LsOf IsU)), s, .un]) (js_for PassesOwn.never rfl (ji_rangeN (n := n) (by omega) (pi_range1 rfl Z.range (ja_cons (jv 1 (R := IsU n)) ja_nil))) (fun x => jg1 6 nd) (fun j G => ∃ s, G = [.pot, .fz (IsU n), .mt (SomM (fun A : List (List Nat) => A.length = i ∧ ∀ r ∈ A, DrR n r) (fun A => LsOf (IsL (IsQ C)) (A.map rowQ))), .fz (IsU l), .fz (IsU p), .mt (SomM (fun xs : List Nat => xs.length = j ∧ ∀ x ∈ xs, x ≤ 2) (LsOf IsU)), s, .un]) ⟨_, rfl⟩ ?_ (fun G1 h => by rwa [List.length_range] at h)) ?_
    · rintro j o G1 hj ⟨s, rfl⟩
      have hjn : j < n := by have := (List.getElem?_eq_some_iff.mp hj).1; simpa using this
      refine js_one (js_N (js_append (i := 5) (R := Som (fun d : Nat => d ≤ 2) IsU) (Rm' := SomM (fun xs : List Nat => xs.length = j + 1 ∧ ∀ x ∈ xs, x ≤ 2) (LsOf IsU)) (ps_expr (pe_bm PySem.F.plainAttrs_list PySem.F.slot_list_append PySem.F.type_list_append mt_append (pv 5) (pa_cons (je_if (R := Som (fun d : Nat => d ≤ 2) IsU) (b1 := decide ((o : Int) = (p : Int))) (jt_cmp (pt_cmpR op_eq (jv 6 (R := IsU o)) (jv 4 (R := IsU p)) (nomark _)) rop_eqI) (fun _ => je_conv (R := Som (fun d : Nat => d < 3) IsU) (jcP k__law_draw (hr.mono (by decide)) ⟨0, rfl⟩ 3 (ja_pot (pv 0) rfl (ja_cons jI ja_nil)) ⟨by decide, by decide⟩) (fun v F ⟨d, hd, h⟩ => ⟨d, by have : d < 3 := hd; omega, h⟩))
        (fun _ => je_op (pe_op op_add (jv 3 (R := IsU l)) (jcP k__law_draw (hr.mono (by decide)) ⟨0, rfl⟩ (3 - l) (ja_pot (pv 0) rfl (ja_cons (je_eq (je_op (pe_op op_sub jI (jv 3 (R := IsU l))) rop_sub) (R' := IsU (3 - l)) ?_) ja_nil)) ⟨by omega, by omega⟩)) (rop_somR (fun _ => mo_I) fun d hd => rop_to rop_add fun v F h => ⟨l + d, by have : d < 3 - l := hd; omega, by rw [h]; show V.int _ = V.int _; congr 1⟩))) pa_nil))) rfl (fun vs v F a b => ?_) (fun vs F a => ?_)) ?_)
      · show IsI _ = IsI _
        congr 1
        omega
      · obtain ⟨ws, ⟨h1, h2⟩, h3⟩ := a.here
        obtain ⟨d, hd, e⟩ := b.here
        refine fun F' e' => ⟨ws ++ [d], ⟨by rw [List.length_append, h1]; rfl, fun x hx => ?_⟩, (h3.snoc (fun _ _ => e)).up F' e'⟩
        rcases List.mem_append.mp hx with q | q
        · exact h2 x q
        · have : x = d := by simpa using q
          rw [this]; exact hd
      · obtain ⟨ws, ⟨h1, h2⟩, h3⟩ := a
        rw [← h3.len, h1]
        exact line_of (m := 1000) (by omega)
      · rintro G' rfl
        exact ⟨_, rfl⟩
    · rintro _ ⟨s, rfl⟩
      refine js_openM (i := 5) rfl (fun x vs F F' h e => h.up F' e) (fun xs hx => ?_)
      obtain ⟨hxl, hx2⟩ := hx
      refine js_cons (N1 := fun G => ∃ ys, DrR n ys ∧ G = [.pot, .fz (IsU n), .mt (SomM (fun A : List (List Nat) => A.length = i ∧ ∀ r ∈ A, DrR n r) (fun A => LsOf (IsL (IsQ C)) (A.map rowQ))), .fz (IsU l), .fz (IsU p), .mt (LsOf IsU ys), s, .un]) (js_if (b1 := decide (sumN xs = 0)) (jt_view (i := 5) rfl (jt_cmp (pt_cmpR op_eq (jbB (cr_sum rfl) Z.sum boot_sum (ja_cons (je_conv (jv 5 (R := IsL IsU xs)) isU_lst) ja_nil) rc_sum) jI (nomark _)) rop_eqI)) (fun h => js_one (js_N (js_setitem (i := 5) (k := (((p + 1) % n : Nat) : Int)) (j := (p + 1) % n) (R := IsU 1) (Rm' := LsOf IsU (xs.set ((p + 1) % n) 1)) (ti := fun _ _ _ => True) (ps_asg jI (pg_sub (pv 5) (je_eq (je_op (pe_op op_mod (je_op (pe_op op_add (jv 4 (R := IsU p)) jI) rop_add) (jv 1 (R := IsU n))) (rop_mod (by omega))) ?_) set_list)) rfl (fun vs F a => gw_ixN ?_) (fun vs v F a b => LsOf.up (paired_set a.here b _))) ?_)) (fun h => js_nil ⟨xs, ⟨hxl, hx2, of_decide_eq_false h⟩, rfl⟩)) ?_
      · show IsI _ = IsI _
        congr 1
      · rw [← a.len, hxl]
        exact Nat.mod_lt _ (by omega)
      · rintro G' rfl
        have hm : (p + 1) % n < xs.length := by rw [hxl]; exact Nat.mod_lt _ (by omega)
        refine ⟨_, ⟨by rw [List.length_set]; exact hxl, fun x hx => ?_, fun e => ?_⟩, rfl⟩
        · rcases List.mem_or_eq_of_mem_set hx with q | q
          · exact hx2 x q
          · omega
        · have : (1 : Nat) ∈ xs.set ((p + 1) % n) 1 := List.mem_set hm 1
          have := sumN_mem this
          omega
      · rintro _ ⟨ys, hy, rfl⟩
        obtain ⟨hs1, hs2⟩ := sumN_le hy.le
        have hyl := hy.l
        refine js_frz (i := 5) rfl ?_
        refine js_openM (i := 2) rfl (fun x vs F F' h e => LsOf.up h F' e) (fun A hA => ?_)
        refine js_seq (js_append (i := 2) (R := IsL (IsQ C) (rowQ ys)) (Rm' := SomM (fun A : List (List Nat) => A.length = i + 1 ∧ ∀ r ∈ A, DrR n r) (fun A => LsOf (IsL (IsQ C)) (A.map rowQ))) (ps_expr (pe_bm PySem.F.plainAttrs_list PySem.F.slot_list_append PySem.F.type_list_append mt_append (pv 2) (pa_cons (je_m (jlc (Ry := IsQ C) (fun x : Nat => Rat.divInt (x : Int) (sumN ys)) [("one", 7)] nd (ji_list (Rx := IsU) (xs := ys) (pi_list (jv 5))) (fun s H C' cl fp x => jg1 7 nd) (fun s H C' cl fp x hx => jmk2 mk (hr.mono (by decide)) (ja_cons (jv 7 (R := IsU x)) (ja_cons (jbB (cr_sum rfl) Z.sum boot_sum (ja_cons (je_conv (jv 5 (R := IsL IsU ys)) isU_lst) ja_nil) rc_sum) ja_nil)) ⟨hy.s, ?_⟩) (line_of (m := 1000) (by omega)))) pa_nil))) rfl (fun vs v F a b => ?_) (fun vs F a => ?_)) ?_
        · exact log2_lt (n := 9000) (by decide) (by
            have e : (sumN ys).natAbs ≤ 20 := by omega
            exact Nat.lt_of_le_of_lt e (Nat.lt_of_lt_of_le (by decide : (20 : Nat) < 2 ^ 5) (Nat.pow_le_pow_right (by decide) (by decide))))
        · refine fun F' e' => ⟨A ++ [ys], ⟨by rw [List.length_append, hA.1]; rfl, fun r hr' => ?_⟩, ?_⟩
          · rcases List.mem_append.mp hr' with q | q
            · exact hA.2 r q
            · have : r = ys := by simpa using q
              rw [this]; exact hy
          · show LsOf (IsL (IsQ C)) ((A ++ [ys]).map rowQ) (vs ++ [v]) F'
            rw [List.map_append]
            exact (LsOf.snoc a.here b).up F' e'
        · rw [← a.len, List.length_map, hA.1]
          exact line_of (m := 1000) (by omega)
        · exact js_weak (le_wipe _ [4, 5, 6]) (js_nil rfl)
  · rintro _ rfl
    exact js_one (js_retVM (pv 2) rfl)
end
end Gw
set_option maxHeartbeats 4000000
namespace Gw
open PySem PySem.Spec PyProof.Rows L2
abbrev RwG : Type := List (Rat × Nat)
abbrev IsRw (C : Addr) (g : RwG) : V → Hp → Prop := IsL (fun p : Rat × Nat => IsTp [IsQ C p.1, IsU p.2]) g
def qHalf : Rat := Rat.divInt 1 2
def qThird : Rat := Rat.divInt 1 3
def gSure : RwG := [(((1 : Int) : Rat), 12)]
def gNear : RwG := [(qHalf, 6), (qHalf, 18)]
def gFar : RwG := [(qHalf, 0), (qHalf, 24)]
def gLow : RwG := [(qThird, 0), (qThird + qThird, 18)]
def gHigh : RwG := [(qThird + qThird, 6), (qThird, 24)]
def rwGs : List RwG := [gSure, gNear, gFar, gLow, gHigh]
/-- both ways positive -/
def Conn2 (rows : List (List Rat)) : Prop := ∀ S : Nat → Prop, S 0 → (∀ i j, S i → i < rows.length → j < rows.length → 0 < (rows[i]!)[j]! → 0 < (rows[j]!)[i]! → S j) → ∀ i, i < rows.length → S i
/-- nothing is left to be met -/
def ClR (rows : List (List Rat)) (met : List Nat) : Prop := ∀ a, a < rows.length → a ∉ met → ∀ h ∈ met, ¬ (0 < (rows[h]!)[a]! ∧ 0 < (rows[a]!)[h]!)
structure MetI (rows : List (List Rat)) (met : List Nat) : Prop where
  nd : met.Nodup
  lt : ∀ x ∈ met, x < rows.length
  r : ∀ S : Nat → Prop, S 0 → (∀ i j, S i → i < rows.length → j < rows.length → 0 < (rows[i]!)[j]! → 0 < (rows[j]!)[i]! → S j) → ∀ x ∈ met, S x
structure MetX (rows : List (List Rat)) (i : Nat) (met : List Nat) : Prop where
  m : MetI rows met
  z : 0 ∈ met
  c : ClR rows met ∨ i + 1 ≤ met.length
structure MetY (rows : List (List Rat)) (i j : Nat) (met : List Nat) : Prop where
  m : MetI rows met
  z : 0 ∈ met
  c : ClR rows met ∨ i + 2 ≤ met.length ∨ (i + 1 ≤ met.length ∧ ∀ a, a < j → a ∉ met → ∀ h ∈ met, ¬ (0 < (rows[h]!)[a]! ∧ 0 < (rows[a]!)[h]!))
theorem MetX.y {rows : List (List Rat)} {i : Nat} {met : List Nat} (h : MetX rows i met) : MetY rows i 0 met := ⟨h.m, h.z, by
  rcases h.c with c | c
  · exact .inl c
  · exact .inr (.inr ⟨c, fun a ha => by omega⟩)⟩
theorem MetY.x {rows : List (List Rat)} {i : Nat} {met : List Nat} (h : MetY rows i rows.length met) : MetX rows (i + 1) met := ⟨h.m, h.z, by
  rcases h.c with c | c | c
  · exact .inl c
  · exact .inr c
  · exact .inl c.2⟩
theorem MetY.stay {rows : List (List Rat)} {i j : Nat} {met : List Nat} (h : MetY rows i j met) (n : j ∉ met → ∀ h ∈ met, ¬ (0 < (rows[h]!)[j]! ∧ 0 < (rows[j]!)[h]!)) : MetY rows i (j + 1) met := ⟨h.m, h.z, by
  rcases h.c with c | c | c
  · exact .inl c
  · exact .inr (.inl c)
  · refine .inr (.inr ⟨c.1, fun a ha hn => ?_⟩)
    by_cases e : a = j
    · subst e
      exact n hn
    · exact c.2 a (by omega) hn⟩
theorem MetY.more {rows : List (List Rat)} {i j x : Nat} {met : List Nat} (h : MetY rows i j met) (hj : j < rows.length) (n : j ∉ met) (hx : x ∈ met) (p1 : 0 < (rows[x]!)[j]!) (p2 : 0 < (rows[j]!)[x]!) : MetY rows i (j + 1) (met ++ [j]) := by
  refine ⟨⟨?_, fun y hy => ?_, fun S h0 hc y hy => ?_⟩, List.mem_append_left _ h.z, ?_⟩
  · rw [List.nodup_append]
    refine ⟨h.m.nd, by simp, fun a h1 b h2 e => ?_⟩
    have : b = j := by simpa using h2
    subst e
    rw [this] at h1
    exact n h1
  · rcases List.mem_append.mp hy with q | q
    · exact h.m.lt y q
    · have : y = j := by simpa using q
      rw [this]; exact hj
  · rcases List.mem_append.mp hy with q | q
    · exact h.m.r S h0 hc y q
    · have : y = j := by simpa using q
      rw [this]
      exact hc x j (h.m.r S h0 hc x hx) (h.m.lt x hx) hj p1 p2
  · rw [List.length_append, List.length_singleton]
    rcases h.c with c | c | c
    · exact absurd ⟨p1, p2⟩ (c j hj n x hx)
    · exact .inr (.inl (by omega))
    · exact .inr (.inl (by omega))
theorem MetX.full {rows : List (List Rat)} {met : List Nat} (h : MetX rows rows.length met) : met.length = rows.length ↔ Conn2 rows := by
  have hle := nodup_le h.m.nd h.m.lt
  have hc : ClR rows met := by
    rcases h.c with c | c
    · exact c
    · omega
  constructor
  · intro hl S h0 hs i hi
    refine h.m.r S h0 hs i ?_
    by_cases hin : i ∈ met
    · exact hin
    · exfalso
      have := nodup_le (n := rows.length) (xs := i :: met) (List.nodup_cons.mpr ⟨hin, h.m.nd⟩) (fun x hx => by
        rcases List.mem_cons.mp hx with e | e
        · rw [e]; exact hi
        · exact h.m.lt x e)
      rw [List.length_cons] at this
      omega
  · intro c
    have all : ∀ i, i < rows.length → i ∈ met := c (fun i => i ∈ met) h.z (fun i j hi _ hj p q => by
      by_cases e : j ∈ met
      · exact e
      · exact absurd ⟨p, q⟩ (hc j hj e i hi))
    have h2 := List.Nodup.length_le_of_subset (List.nodup_range (n := rows.length)) (fun x hx => all x (List.mem_range.mp hx))
    rw [List.length_range] at h2
    omega
def qQuart : Rat := Rat.divInt 1 4
def gThree1 (k : Nat) : RwG := [(qQuart, 12 - k), (qHalf, 12), (qQuart, 12 + k)]
def gThree2 (k : Nat) : RwG := [(qHalf, 12 - k), (qQuart, 12), (qQuart, 12 + 2 * k)]
def GuP (g : RwG) : Prop := g ∈ rwGs ∨ ∃ k, 1 ≤ k ∧ k ≤ 11 ∧ (g = gThree1 k ∨ g = gThree2 k)
section
variable {P : Program} {w : World} {K : PySem.W.Frag} {mg : Str → Option Value} {base : Heap} {C : Addr}
theorem tp2_L {C : Addr} {p q : Rat × Nat} : ∀ v F, LstOf (Args [IsTp [IsQ C p.1, IsU p.2], IsTp [IsQ C q.1, IsU q.2]]) v F → IsRw C [p, q] v F := fun v F ⟨a, vs, e, h, u⟩ => ⟨a, vs, e, h, u.imp fun F q => args_ls q⟩
theorem tp1_L {C : Addr} {p : Rat × Nat} : ∀ v F, LstOf (Args [IsTp [IsQ C p.1, IsU p.2]]) v F → IsRw C [p] v F := fun v F ⟨a, vs, e, h, u⟩ => ⟨a, vs, e, h, u.imp fun F q => args_ls q⟩
abbrev IsRp (C : Addr) (g : RwG × RwG) : V → Hp → Prop := IsTp [IsRw C g.1, IsRw C g.2]
abbrev sp__law_two (C : Addr) : Sp := PrP (ι := Unit) (fun _ => []) (fun _ => True) (fun _ => Som (fun g : RwG × RwG => g.1 ∈ rwGs ∧ g.2 ∈ rwGs) (IsRp C))
abbrev Kn__law_two (P : Program) (w : World) (K : PySem.W.Frag) (mg : Str → Option Value) (base : Heap) (C : Addr) : Prop := Kn P w K mg base "_law_two" 7 ["pot"] (sp__law_two C)
theorem ok__law_two (Z : Glo K mg C) (mk : Mkr P w K mg base C 2) (oadd : Opr P w K mg base C .Add 6 (fun w => Fits w.1 w.2) (· + ·)) (k__law_pick : Kn__law_pick P w K mg base C) {f : Addr} {fd : FuncData} (Fd : FnP K "_law_two" st__law_two f fd) : FnOk P w K mg base CX0 7 f fd ["pot"] (sp__law_two C) := by
  refine fn_prP Fd sc__law_two (fun u => by first | rfl | (cases u <;> rfl)) (by decide) (fun X u E hX hp => ?_)
  obtain ⟨cdv, A, outer, s, H, E', rfl, hr⟩ := hX
  refine PSs.nox ?_
  have nd := (sc__law_two).nd
  replace hr : Room 6 (cxOf CX0 P w K mg base N__law_two "_law_two" (defScope st__law_two) f cdv A outer s H E').nox.A := hr
  refine js_seq (js_par (i := 1) (j := 2) (Ra := IsQ C qHalf) (Rb := IsQ C qThird) (ps_par (i := 1) (j := 2) rfl nd rfl rfl (by decide) rfl rfl (pa_cons (jmk2 mk (hr.mono (by decide)) (ja_cons jI (ja_cons jI ja_nil)) ⟨by decide, by decide⟩) (pa_cons (jmk2 mk (hr.mono (by decide)) (ja_cons jI (ja_cons jI ja_nil)) ⟨by decide, by decide⟩) pa_nil)) rfl)) ?_
  refine js_seq (js_par3 (i := 3) (j := 4) (l := 5) (Ra := IsRw C gSure) (Rb := IsRw C gNear) (Rc := IsRw C gFar) (ps_par3 (i := 3) (j := 4) (l := 5) rfl nd rfl rfl rfl (by decide) (by decide) (by decide) rfl rfl rfl (pa_cons (je_conv (je_m (jm_lst (Rs := [IsTp [IsQ C ((1 : Int) : Rat), IsU 12]]) (pe_lst (ja_cons (je_tup (pe_tup (ja_cons (jmk1 mk (hr.mono (by decide)) (ja_cons jI ja_nil)) (ja_cons jI ja_nil)))) ja_nil)))) (tp1_L (p := (((1 : Int) : Rat), 12)))) (pa_cons (je_conv (je_m (jm_lst (Rs := [IsTp [IsQ C qHalf, IsU 6], IsTp [IsQ C qHalf, IsU 18]]) (pe_lst (ja_cons (je_tup (pe_tup (ja_cons (jv 1) (ja_cons jI ja_nil)))) (ja_cons (je_tup (pe_tup (ja_cons (jv 1) (ja_cons jI ja_nil)))) ja_nil))))) (tp2_L (p := (qHalf, 6)) (q := (qHalf, 18)))) (pa_cons (je_conv (je_m (jm_lst (Rs := [IsTp [IsQ C qHalf, IsU 0], IsTp [IsQ C qHalf, IsU 24]]) (pe_lst (ja_cons (je_tup (pe_tup (ja_cons (jv 1) (ja_cons jI ja_nil)))) (ja_cons (je_tup (pe_tup (ja_cons (jv 1) (ja_cons jI ja_nil)))) ja_nil))))) (tp2_L (p := (qHalf, 0)) (q := (qHalf, 24)))) pa_nil))) rfl)) ?_
  have hf : Fits qThird qThird := Sz.fits (n := 4) (m := 4) ⟨by decide, by decide⟩ ⟨by decide, by decide⟩ (by decide)
  refine js_seq (js_par (i := 6) (j := 7) (Ra := IsRw C gLow) (Rb := IsRw C gHigh) (ps_par (i := 6) (j := 7) rfl nd rfl rfl (by decide) rfl rfl (pa_cons (je_conv (je_m (jm_lst (Rs := [IsTp [IsQ C qThird, IsU 0], IsTp [IsQ C (qThird + qThird), IsU 18]]) (pe_lst (ja_cons (je_tup (pe_tup (ja_cons (jv 2) (ja_cons jI ja_nil)))) (ja_cons (je_tup (pe_tup (ja_cons (joQ oadd (hr.mono (by decide)) (jv 2) (jv 2) hf) (ja_cons jI ja_nil)))) ja_nil))))) (tp2_L (p := (qThird, 0)) (q := (qThird + qThird, 18)))) (pa_cons (je_conv (je_m (jm_lst (Rs := [IsTp [IsQ C (qThird + qThird), IsU 6], IsTp [IsQ C qThird, IsU 24]]) (pe_lst (ja_cons (je_tup (pe_tup (ja_cons (joQ oadd (hr.mono (by decide)) (jv 2) (jv 2) hf) (ja_cons jI ja_nil)))) (ja_cons (je_tup (pe_tup (ja_cons (jv 2) (ja_cons jI ja_nil)))) ja_nil))))) (tp2_L (p := (qThird + qThird, 6)) (q := (qThird, 24)))) pa_nil)) rfl)) ?_
  refine js_one (js_ret (je_conv (R := PickK [IsRp C (gSure, gNear), IsRp C (gSure, gFar), IsRp C (gNear, gFar), IsRp C (gNear, gLow), IsRp C (gSure, gLow), IsRp C (gSure, gHigh), IsRp C (gNear, gNear), IsRp C (gHigh, gHigh), IsRp C (gLow, gFar)]) (jcP k__law_pick (hr.mono (by decide)) ⟨0, rfl⟩ (true, [IsRp C (gSure, gNear), IsRp C (gSure, gFar), IsRp C (gNear, gFar), IsRp C (gNear, gLow), IsRp C (gSure, gLow), IsRp C (gSure, gHigh), IsRp C (gNear, gNear), IsRp C (gHigh, gHigh), IsRp C (gLow, gFar)]) (ja_pot (pv 0) rfl (ja_cons (je_m (jm_lst (pe_lst (ja_cons (je_tup (pe_tup (ja_cons (jv 3) (ja_cons (jv 4) ja_nil)))) (ja_cons (je_tup (pe_tup (ja_cons (jv 3) (ja_cons (jv 5) ja_nil)))) (ja_cons (je_tup (pe_tup (ja_cons (jv 4) (ja_cons (jv 5) ja_nil)))) (ja_cons (je_tup (pe_tup (ja_cons (jv 4) (ja_cons (jv 6) ja_nil)))) (ja_cons (je_tup (pe_tup (ja_cons (jv 3) (ja_cons (jv 6) ja_nil)))) (ja_cons (je_tup (pe_tup (ja_cons (jv 3) (ja_cons (jv 7) ja_nil)))) (ja_cons (je_tup (pe_tup (ja_cons (jv 4) (ja_cons (jv 4) ja_nil)))) (ja_cons (je_tup (pe_tup (ja_cons (jv 7) (ja_cons (jv 7) ja_nil)))) (ja_cons (je_tup (pe_tup (ja_cons (jv 6) (ja_cons (jv 5) ja_nil)))) ja_nil)))))))))))) ja_nil)) ⟨by show 0 < 9; decide, by show 9 < 1000; decide, fun R hR => ?_⟩) (fun v F ⟨R, hR, h⟩ => ?_)))
  · simp only [List.mem_cons, List.not_mem_nil, or_false] at hR
    rcases hR with rfl | rfl | rfl | rfl | rfl | rfl | rfl | rfl | rfl <;> exact mo_T
  · simp only [List.mem_cons, List.not_mem_nil, or_false] at hR
    rcases hR with rfl | rfl | rfl | rfl | rfl | rfl | rfl | rfl | rfl <;> exact ⟨_, ⟨by simp [rwGs], by simp [rwGs]⟩, h⟩
def handed (p : Rat × Nat) : Rat × Rat := (p.1, Rat.divInt (p.2 : Int) 12)
abbrev sp__law_handed (C : Addr) : Sp := Pr (ι := RwG) (fun g => [IsRw C g]) (fun g => g.length ≤ 10) (fun g => IsGQ C (g.map handed))
abbrev Kn__law_handed (P : Program) (w : World) (K : PySem.W.Frag) (mg : Str → Option Value) (base : Heap) (C : Addr) : Prop := Kn P w K mg base "_law_handed" 4 ["guess"] (sp__law_handed C)
theorem ok__law_handed (Z : Glo K mg C) (mk : Mkr P w K mg base C 2) {f : Addr} {fd : FuncData} (Fd : FnP K "_law_handed" st__law_handed f fd) : FnOk P w K mg base CX0 4 f fd ["guess"] (sp__law_handed C) := by
  refine fn_pr Fd sc__law_handed (fun u => by first | rfl | (cases u <;> rfl)) (fun _ => False) (fun _ _ h => h.elim) (fun X u E hX hp hE => ?_)
  obtain ⟨cdv, A, outer, s, H, E', rfl, hr⟩ := hX
  refine PSs.nox ?_
  have nd := (sc__law_handed).nd
  replace hr : Room 3 (cxOf CX0 P w K mg base N__law_handed "_law_handed" (defScope st__law_handed) f cdv A outer s H E').nox.A := hr
  rename RwG => g
  exact js_one (js_ret (je_m (jlc (Ry := IsPq C) handed [("chance", 1), ("worth", 2)] nd (ji_list (Rx := fun p : Rat × Nat => IsTp [IsQ C p.1, IsU p.2]) (xs := g) (pi_list (jv 0))) (fun s H C' cl fp x => jg2 1 2 nd) (fun s H C' cl fp x hx => je_tup (pe_tup (ja_cons (jv 1) (ja_cons (jmk2 mk (hr.mono (by decide)) (ja_cons (jv 2 (R := IsU x.2)) (ja_cons jI ja_nil)) ⟨by decide, by decide⟩) ja_nil)))) (line_of (m := 1000) (by have : g.length ≤ 10 := hp; omega)))))
theorem tp3_L {C : Addr} {p q r : Rat × Nat} : ∀ v F, LstOf (Args [IsTp [IsQ C p.1, IsU p.2], IsTp [IsQ C q.1, IsU q.2], IsTp [IsQ C r.1, IsU r.2]]) v F → IsRw C [p, q, r] v F := fun v F ⟨a, vs, e, h, u⟩ => ⟨a, vs, e, h, u.imp fun F q => args_ls q⟩
abbrev sp__law_three (C : Addr) : Sp := PrP (ι := Unit) (fun _ => []) (fun _ => True) (fun _ => Som GuP (IsRw C))
abbrev Kn__law_three (P : Program) (w : World) (K : PySem.W.Frag) (mg : Str → Option Value) (base : Heap) (C : Addr) : Prop := Kn P w K mg base "_law_three" 7 ["pot"] (sp__law_three C)
theorem ok__law_three (Z : Glo K mg C) (mk : Mkr P w K mg base C 2) (k__law_draw : Kn__law_draw P w K mg base C) (k__law_pick : Kn__law_pick P w K mg base C) {f : Addr} {fd : FuncData} (Fd : FnP K "_law_three" st__law_three f fd) : FnOk P w K mg base CX0 7 f fd ["pot"] (sp__law_three C) := by
  refine fn_prP Fd sc__law_three (fun u => by first | rfl | (cases u <;> rfl)) (by decide) (fun X u E hX hp => ?_)
  obtain ⟨cdv, A, outer, s, H, E', rfl, hr⟩ := hX
  refine PSs.nox ?_
  have nd := (sc__law_three).nd
  replace hr : Room 6 (cxOf CX0 P w K mg base N__law_three "_law_three" (defScope st__law_three) f cdv A outer s H E').nox.A := hr
  refine js_seq (js_set (R := Som (fun k : Nat => 1 ≤ k ∧ k ≤ 11) IsU) (ps_set (i := 1) nd rfl (.inl rfl) (je_op (pe_op op_add jI (jcP k__law_draw (hr.mono (by decide)) ⟨0, rfl⟩ 11 (ja_pot (pv 0) rfl (ja_cons jI ja_nil)) ⟨by decide, by decide⟩)) (rop_somR (P := fun d : Nat => d < 11) (Rx := IsU) (fun _ => mo_I) fun d hd => rop_to rop_add fun v F h => ⟨d + 1, by have : d < 11 := hd; omega, by rw [show IsU (d + 1) = IsI (1 + (d : Int)) from congrArg IsI (by omega)]; exact h⟩)))) ?_
  refine js_open (i := 1) rfl (fun x v F F' h e => h) (fun k hk => ?_)
  refine js_seq (js_set (R := IsRw C (gThree1 k)) (ps_set (i := 2) nd rfl (.inl rfl) (je_conv (je_m (jm_lst (Rs := [IsTp [IsQ C qQuart, IsU (12 - k)], IsTp [IsQ C qHalf, IsU 12], IsTp [IsQ C qQuart, IsU (12 + k)]]) (pe_lst (ja_cons (je_tup (pe_tup (ja_cons (jmk2 mk (hr.mono (by decide)) (ja_cons jI (ja_cons jI ja_nil)) ⟨by decide, by decide⟩) (ja_cons (je_eq (je_op (pe_op op_sub jI (jv 1 (R := IsU k))) rop_sub) (congrArg IsI (by omega))) ja_nil)))) (ja_cons (je_tup (pe_tup (ja_cons (jmk2 mk (hr.mono (by decide)) (ja_cons jI (ja_cons jI ja_nil)) ⟨by decide, by decide⟩) (ja_cons jI ja_nil)))) (ja_cons (je_tup (pe_tup (ja_cons (jmk2 mk (hr.mono (by decide)) (ja_cons jI (ja_cons jI ja_nil)) ⟨by decide, by decide⟩) (ja_cons (je_eq (je_op (pe_op op_add jI (jv 1 (R := IsU k))) rop_add) (congrArg IsI (by omega))) ja_nil)))) ja_nil)))))) (tp3_L (p := (qQuart, 12 - k)) (q := (qHalf, 12)) (r := (qQuart, 12 + k)))))) ?_
  refine js_one (js_ret (je_conv (R := PickK [IsRw C (gThree1 k), IsRw C (gThree2 k)]) (jcP k__law_pick (hr.mono (by decide)) ⟨0, rfl⟩ (true, [IsRw C (gThree1 k), IsRw C (gThree2 k)]) (ja_pot (pv 0) rfl (ja_cons (je_m (jm_lst (pe_lst (ja_cons (jv 2) (ja_cons (je_conv (je_m (jm_lst (Rs := [IsTp [IsQ C qHalf, IsU (12 - k)], IsTp [IsQ C qQuart, IsU 12], IsTp [IsQ C qQuart, IsU (12 + 2 * k)]]) (pe_lst (ja_cons (je_tup (pe_tup (ja_cons (jmk2 mk (hr.mono (by decide)) (ja_cons jI (ja_cons jI ja_nil)) ⟨by decide, by decide⟩) (ja_cons (je_eq (je_op (pe_op op_sub jI (jv 1 (R := IsU k))) rop_sub) (congrArg IsI (by omega))) ja_nil)))) (ja_cons (je_tup (pe_tup (ja_cons (jmk2 mk (hr.mono (by decide)) (ja_cons jI (ja_cons jI ja_nil)) ⟨by decide, by decide⟩) (ja_cons jI ja_nil)))) (ja_cons (je_tup (pe_tup (ja_cons (jmk2 mk (hr.mono (by decide)) (ja_cons jI (ja_cons jI ja_nil)) ⟨by decide, by decide⟩) (ja_cons (je_eq (je_op (pe_op op_add jI (je_op (pe_op op_mulW jI (jv 1 (R := IsU k))) (rop_mulW (i := 2) (mulW_of (n := 20) (m := 20) (by decide) ?_ (by decide) (by decide) (by decide))))) rop_add) (congrArg IsI (by omega))) ja_nil)))) ja_nil)))))) (tp3_L (p := (qHalf, 12 - k)) (q := (qQuart, 12)) (r := (qQuart, 12 + 2 * k)))) ja_nil))))) ja_nil)) ⟨by show 0 < 2; decide, by show 2 < 1000; decide, fun R hR => ?_⟩) (fun v F ⟨R, hR, h⟩ => ?_)))
  · rw [Int.natAbs_natCast]
    exact Nat.lt_of_le_of_lt hk.2 (by decide)
  · simp only [List.mem_cons, List.not_mem_nil, or_false] at hR
    rcases hR with rfl | rfl <;> exact mo_L
  · simp only [List.mem_cons, List.not_mem_nil, or_false] at hR
    rcases hR with rfl | rfl
    · exact ⟨gThree1 k, .inr ⟨k, hk.1, hk.2, .inl rfl⟩, h⟩
    · exact ⟨gThree2 k, .inr ⟨k, hk.1, hk.2, .inr rfl⟩, h⟩
abbrev sp__law_is_joined (C : Addr) : Sp := Pr (ι := List (List Rat)) (fun w => [IsQM C w]) (fun w => 1 ≤ w.length ∧ w.length ≤ 10 ∧ ∀ r ∈ w, r.length = w.length) (fun w => Som (fun b : Bool => b = true ↔ Conn2 w) IsB)
abbrev Kn__law_is_joined (P : Program) (w : World) (K : PySem.W.Frag) (mg : Str → Option Value) (base : Heap) (C : Addr) : Prop := Kn P w K mg base "_law_is_joined" 3 ["rows"] (sp__law_is_joined C)
theorem ok__law_is_joined (Z : Glo K mg C) (psign : PropK P w K mg base C "sign" 1 (sp_Rsign C)) {f : Addr} {fd : FuncData} (Fd : FnP K "_law_is_joined" st__law_is_joined f fd) : FnOk P w K mg base CX0 3 f fd ["rows"] (sp__law_is_joined C) := by
  refine fn_pr Fd sc__law_is_joined (fun u => by first | rfl | (cases u <;> rfl)) (fun _ => False) (fun _ _ h => h.elim) (fun X u E hX hp hE => ?_)
  obtain ⟨cdv, A, outer, s, H, E', rfl, hr⟩ := hX
  refine PSs.nox ?_
  have nd := (sc__law_is_joined).nd
  replace hr : Room 2 (cxOf CX0 P w K mg base N__law_is_joined "_law_is_joined" (defScope st__law_is_joined) f cdv A outer s H E').nox.A := hr
  rename List (List Rat) => rows
  obtain ⟨h1, h2, hrr⟩ := hp
  have hpl : ∀ x vs F F', LsOf IsU x vs F → Ex F F' → LsOf IsU x vs F' := fun x vs F F' h e => h.up F' e
  refine js_seq (js_setM (Rm := SomM (MetX rows 0) (LsOf IsU)) (ps_set (i := 1) nd rfl (.inl rfl) (jm_conv (jm_ls (R := IsU) [0] (jm_lst (pe_lst (ja_cons jI ja_nil)))) (fun vs F h => ⟨[0], ⟨⟨by simp, fun x hx => by simp at hx; omega, fun S h0 _ x hx => by simp at hx; rw [hx]; exact h0⟩, by simp, .inr (by simp)⟩, h⟩)))) ?_
  refine js_cons (N1 := fun G => G = [.fz (IsQM C rows), .mt (SomM (MetX rows rows.length) (LsOf IsU)), .un, .un, .un]) (js_for PassesOwn.never rfl (ji_list (Rx := IsL (IsQ C)) (xs := rows) (pi_list (jv 0))) (fun x => jg1 2 nd) (fun i G => G = [.fz (IsQM C rows), .mt (SomM (MetX rows i) (LsOf IsU)), .un, .un, .un]) rfl ?_ (fun G1 h => h)) ?_
  · rintro i turn G1 hi rfl
    refine js_weak (G' := [.fz (IsQM C rows), .mt (SomM (MetY rows i 0) (LsOf IsU)), .fz (IsL (IsQ C) turn), .un, .un]) (.cons (Le.rfl' _) (.cons (.mt fun v F ⟨met, hm, h⟩ => ⟨met, MetX.y hm, h⟩) (.cons (Le.rfl' _) (.cons (Le.rfl' _) (.cons (Le.rfl' _) .nil))))) ?_
    refine js_cons (N1 := fun G => G = [.fz (IsQM C rows), .mt (SomM (MetY rows i rows.length) (LsOf IsU)), .fz (IsL (IsQ C) turn), .un, .un]) (js_for PassesOwn.never rfl (ji_rangeN (n := rows.length) (by omega) (pi_range1 rfl Z.range (ja_cons (jbB call_len Z.len boot_len (ja_cons (jv 0 (R := IsQM C rows)) ja_nil) rc_len) ja_nil))) (fun x => jg1 3 nd) (fun j G => G = [.fz (IsQM C rows), .mt (SomM (MetY rows i j) (LsOf IsU)), .fz (IsL (IsQ C) turn), .un, .un]) rfl ?_ (fun G1 h => by rwa [List.length_range] at h)) ?_
    · rintro j at_ G1 hj rfl
      have hat : at_ < rows.length := List.mem_range.mp (List.mem_of_getElem? hj)
      have hjat : at_ = j := by
        have := (List.getElem?_eq_some_iff.mp hj).2
        rw [List.getElem_range] at this
        exact this.symm
      subst hjat
      refine js_openM (i := 1) rfl hpl (fun met hm => ?_)
      have hml := nodup_le hm.m.nd hm.m.lt
      refine js_cons (N1 := fun G => G = [.fz (IsQM C rows), .mt (SomM (MetY rows i (at_ + 1)) (LsOf IsU)), .fz (IsL (IsQ C) turn), .fz (IsU at_), .un]) (js_if (b1 := !decide (at_ ∈ met) && !(((met.filter fun (here : Nat) => decide (0 < (rows[here]!)[at_]!) && decide (0 < (rows[at_]!)[here]!)).map fun _ => (1 : Int))).isEmpty) (PW.pt (jw_and (jt_eq (jt_view (i := 1) rfl (jt_cmp (pt_cmpR op_notIn_seq (jv 3 (R := IsU at_)) (je_conv (jv 1 (R := IsL IsU met)) isU_lst) (by with_unfolding_all rfl)) rop_notIn)) ?_) fun _ => jw_and1 (jt_view (i := 1) rfl (jt_cmp (pt_cmpR (op_neD hr.units) (je_m (jm_lc (own := [("here", 4)]) (Ry := IsI) (fun here : Nat => decide (0 < (rows[here]!)[at_]!) && decide (0 < (rows[at_]!)[here]!)) (fun _ => (1 : Int)) rfl nd (ji_list (Rx := IsU) (xs := met) (pi_list (jv 1))) (blkOk_by (by kernel_rfl)) (by decide) (fun s H C' cl fp x => jg1 4 nd) (fun s H C' cl fp x hx => jts_one (PW.pt (jw_and (jt_eq (jt_cmp (pt_cmpR op_gt (jprop psign hr (rows[x]!)[at_]! (je_op (pe_ix ix_list (je_op (pe_ix ix_list (jv 0 (R := IsQM C rows)) (jv 4 (R := IsU x)) (fun _ _ => rfl)) (rop_ixB (hm.m.lt x hx))) (jv 3 (R := IsU at_)) (fun _ _ => rfl)) (rop_ixB (by rw [hrr _ (get_mem (hm.m.lt x hx))]; exact hat))) rfl trivial rfl) jI (nomark _)) rop_gt) (by rw [q_sgn_pos])) fun _ => jw_and1 (jt_eq (jt_cmp (pt_cmpR op_gt (jprop psign hr (rows[at_]!)[x]! (je_op (pe_ix ix_list (je_op (pe_ix ix_list (jv 0 (R := IsQM C rows)) (jv 3 (R := IsU at_)) (fun _ _ => rfl)) (rop_ixB hat)) (jv 4 (R := IsU x)) (fun _ _ => rfl)) (rop_ixB (by rw [hrr _ (get_mem hat)]; exact hm.m.lt x hx))) rfl trivial rfl) jI (nomark _)) rop_gt) (by rw [q_sgn_pos]))))) (fun s H C' cl fp x hx _ => jI) (line_of (m := 1000) (by omega)))) (je_m (jm_ls (α := Int) (R := IsI) [] (jm_lst (pe_lst ja_nil)))) (nomark _)) rop_neNil)))) (fun h => js_one (js_N (js_append (i := 1) (R := IsU at_) (Rm' := SomM (MetY rows i (at_ + 1)) (LsOf IsU)) (ps_expr (pe_bm PySem.F.plainAttrs_list PySem.F.slot_list_append PySem.F.type_list_append mt_append (pv 1) (pa_cons (jv 3) pa_nil))) rfl (fun vs v F a b => ?_) (fun vs F a => ?_)) (fun G' h => h))) (fun h => js_weak (.cons (Le.rfl' _) (.cons (.mt fun v F h' => ⟨met, hm.stay fun hn x hx hpp => ?_, h'⟩) (.cons (Le.rfl' _) (.cons (Le.rfl' _) (.cons (Le.rfl' _) .nil))))) (js_nil rfl))) ?_
      · congr 1
        rw [decide_eq_decide, List.mem_map]
        constructor
        · rintro ⟨a, h1, h2⟩
          rw [← Int.ofNat.inj h2]
          exact h1
        · exact fun h => ⟨_, h, rfl⟩
      · simp only [Bool.and_eq_true, Bool.not_eq_true', decide_eq_false_iff_not] at h
        obtain ⟨hn, he⟩ := h
        obtain ⟨here, hh⟩ : ∃ here, here ∈ met.filter fun (here : Nat) => decide (0 < (rows[here]!)[at_]!) && decide (0 < (rows[at_]!)[here]!) := by
          cases e : met.filter fun (here : Nat) => decide (0 < (rows[here]!)[at_]!) && decide (0 < (rows[at_]!)[here]!) with
          | nil => rw [e] at he; exact absurd he (by simp)
          | cons x l => exact ⟨x, by simp⟩
        obtain ⟨q1, q2⟩ := List.mem_filter.mp hh
        simp only [Bool.and_eq_true, decide_eq_true_eq] at q2
        exact fun F' e' => ⟨met ++ [at_], hm.more hat hn q1 q2.1 q2.2, (a.here.snoc b).up F' e'⟩
      · rw [← a.len]
        exact line_of (m := 1000) (by omega)
      · rintro _ rfl
        exact js_weak (le_wipe _ [3]) (js_nil rfl)
      · rw [Bool.and_eq_false_iff] at h
        rcases h with h | h
        · simp only [Bool.not_eq_false', decide_eq_true_eq] at h
          exact hn h
        · have hmem : x ∈ met.filter fun (here : Nat) => decide (0 < (rows[here]!)[at_]!) && decide (0 < (rows[at_]!)[here]!) := List.mem_filter.mpr ⟨hx, by show (decide (0 < (rows[x]!)[at_]!) && decide (0 < (rows[at_]!)[x]!)) = true; rw [decide_eq_true hpp.1, decide_eq_true hpp.2]; rfl⟩
          simp only [Bool.not_eq_false', List.isEmpty_iff, List.map_eq_nil_iff] at h
          rw [h] at hmem
          exact absurd hmem (by simp)
    · rintro _ rfl
      exact js_weak (.cons (Le.rfl' _) (.cons (.mt fun v F ⟨met, hm, h⟩ => ⟨met, MetY.x hm, h⟩) (.cons .un (.cons (Le.rfl' _) (.cons (Le.rfl' _) .nil))))) (js_nil rfl)
  · rintro _ rfl
    refine js_openM (i := 1) rfl hpl (fun met hm => ?_)
    refine js_one (js_ret (je_conv (je_view (i := 1) (R := IsB (decide ((met.length : Int) = (rows.length : Int)))) rfl (fun v F F' h => h) (je_op (pe_cmpR op_eq (jbB call_len Z.len boot_len (ja_cons (jv 1 (R := IsL IsU met)) ja_nil) rc_len) (jbB call_len Z.len boot_len (ja_cons (jv 0 (R := IsQM C rows)) ja_nil) rc_len) (nomark _)) rop_eqI)) (fun v F h => ⟨decide ((met.length : Int) = (rows.length : Int)), by
      show decide ((met.length : Int) = (rows.length : Int)) = true ↔ Conn2 rows
      rw [decide_eq_true_eq]
      exact Iff.trans ⟨fun h => by omega, fun h => by omega⟩ hm.full, h⟩)))
    -- ⟨fun h => by omega, fun h => by omega⟩ hm.full
end
end Gw
set_option maxHeartbeats 4000000
namespace Gw
open PySem PySem.Spec PyProof.Rows L2
/-! ### the law's own walk of standings -/
abbrev Sw : Type := Nat × Rat × Nat
abbrev IsSw (C : Addr) (s : Sw) : V → Hp → Prop := IsTp [IsU s.1, IsQ C s.2.1, IsU s.2.2]
def swOf (q : Nat × RwG) : List Sw := (q.2.filter fun p => decide (0 < p.2)).map fun p => (q.1, p.1, p.2)
def swR (gs : List RwG) : List Sw := ((enumN gs).map swOf).flatten
structure RwOk (n : Nat) (rows : List (List Rat)) (ws : List Nat) : Prop where
  n10 : n ≤ 10
  n1 : 1 ≤ n
  rl : rows.length = n
  rr : ∀ r ∈ rows, r.length = n
  sz : ∀ r ∈ rows, ∀ x ∈ r, Sz 10 x
  wl : ws.length = n
  w : ∀ x ∈ ws, 1 ≤ x ∧ x ≤ 4
structure SwOk (n : Nat) (s : Sw) : Prop where
  lt : s.1 < n
  c : Sz 6 s.2.1
  lo : 1 ≤ s.2.2
  hi : s.2.2 ≤ 100
def thR (rows : List (List Rat)) (a b : Sw) : Rat := (rows[a.1]!)[b.1]!
def wnR (ws : List Nat) (a : Sw) : Int := (ws[a.1]! : Int) * (a.2.2 : Int)
def quR (rows : List (List Rat)) (ws : List Nat) (a b : Sw) : Rat := (thR rows b a * (wnR ws b : Rat)) / (thR rows a b * (wnR ws a : Rat))
def goR (rows : List (List Rat)) (ws : List Nat) (a b : Sw) : Rat := if thR rows a b = 0 ∨ thR rows b a = 0 then 0 else thR rows a b * b.2.1 * (if quR rows ws a b < ((1 : Int) : Rat) then quR rows ws a b else ((1 : Int) : Rat))
def row0R (rows : List (List Rat)) (ws : List Nat) (ss : List Sw) (p : Nat × Sw) : List Rat := (enumN ss).map fun q => if p.1 = q.1 then 0 else goR rows ws p.2 q.2
def rowC (rows : List (List Rat)) (ws : List Nat) (ss : List Sw) (p : Nat × Sw) : List Rat := (row0R rows ws ss p).set p.1 (((1 : Int) : Rat) - sumR (row0R rows ws ss p))
def chR (rows : List (List Rat)) (ws : List Nat) (ss : List Sw) : List (List Rat) := (enumN ss).map (rowC rows ws ss)
def shR (ws : List Nat) (ss : List Sw) : List Rat := ss.map fun s => Rat.divInt (wnR ws s) (12 * sumN ws) * s.2.1
theorem q_mul_ne {q r : Rat} (h : q ≠ 0) (k : r ≠ 0) : q * r ≠ 0 := fun e => (Rat.mul_eq_zero.mp e).elim h k
theorem q_sgn_0 (q : Rat) : decide (q.num.sign = 0) = decide (q = 0) := by
  rw [decide_eq_decide, Int.sign_eq_zero_iff_zero]
  exact Rat.num_eq_zero
theorem sz_div {n m : Nat} {q r : Rat} (h : Sz n q) (k : Sz m r) (hr : r ≠ 0) : Sz (n + m) (q / r) := by
  rw [Rat.div_def]
  refine h.mul ⟨?_, ?_⟩
  · rw [Rat.num_inv, Int.natAbs_mul, Int.natAbs_natCast]
    have hs : r.num.sign.natAbs = 1 := by
      rw [Int.natAbs_sign]
      have : r.num ≠ 0 := fun e => hr (Rat.num_eq_zero.mp e)
      simp [this]
    rw [hs, Nat.one_mul]
    exact k.2
  · rw [Rat.den_inv]
    have : r.num ≠ 0 := fun e => hr (Rat.num_eq_zero.mp e)
    simp [this]
    exact k.1
theorem wn_pos {n : Nat} {rows : List (List Rat)} {ws : List Nat} {a : Sw} (h : RwOk n rows ws) (ha : SwOk n a) : 1 ≤ wnR ws a ∧ wnR ws a ≤ 400 := by
  obtain ⟨h1, h2⟩ := h.w _ (get_mem (xs := ws) (i := a.1) (by have := h.wl; have := ha.lt; omega))
  have h3 := ha.lo
  have h4 := ha.hi
  unfold wnR
  constructor
  · have := Int.mul_le_mul (by omega : (1 : Int) ≤ (ws[a.1]! : Int)) (by omega : (1 : Int) ≤ (a.2.2 : Int)) (by omega) (by omega)
    omega
  · have := Int.mul_le_mul (by omega : (ws[a.1]! : Int) ≤ 4) (by omega : (a.2.2 : Int) ≤ 100) (by omega) (by omega)
    omega
theorem wn_sz {n : Nat} {rows : List (List Rat)} {ws : List Nat} {a : Sw} (h : RwOk n rows ws) (ha : SwOk n a) : Sz 10 (wnR ws a : Rat) := by
  have := wn_pos h ha
  exact Sz.int (by decide) (by omega)
theorem wn_ne {n : Nat} {rows : List (List Rat)} {ws : List Nat} {a : Sw} (h : RwOk n rows ws) (ha : SwOk n a) : (wnR ws a : Rat) ≠ 0 := by
  have := wn_pos h ha
  intro e
  have : wnR ws a = 0 := Rat.intCast_inj.mp (by rw [e]; rfl)
  omega
theorem th_sz {n : Nat} {rows : List (List Rat)} {ws : List Nat} {a b : Sw} (h : RwOk n rows ws) (ha : SwOk n a) (hb : SwOk n b) : Sz 10 (thR rows a b) := by
  have hm : rows[a.1]! ∈ rows := get_mem (by rw [h.rl]; exact ha.lt)
  exact h.sz _ hm _ (get_mem (by rw [h.rr _ hm]; exact hb.lt))
theorem qu_sz {n : Nat} {rows : List (List Rat)} {ws : List Nat} {a b : Sw} (h : RwOk n rows ws) (ha : SwOk n a) (hb : SwOk n b) (h0 : thR rows a b ≠ 0) : Sz 40 (quR rows ws a b) :=
  sz_div (n := 20) (m := 20) ((th_sz h hb ha).mul (wn_sz h hb)) ((th_sz h ha hb).mul (wn_sz h ha)) (q_mul_ne h0 (wn_ne h ha))
theorem sz1 : Sz 1 ((1 : Int) : Rat) := ⟨by decide, by decide⟩
theorem go_sz {n : Nat} {rows : List (List Rat)} {ws : List Nat} {a b : Sw} (h : RwOk n rows ws) (ha : SwOk n a) (hb : SwOk n b) : Sz 60 (goR rows ws a b) := by
  unfold goR
  split
  · exact sz0.mono (by decide)
  · next hn =>
    have h0 : thR rows a b ≠ 0 := fun e => hn (.inl e)
    have h1 := (th_sz h ha hb).mul hb.c
    split
    · exact (h1.mul (qu_sz h ha hb h0)).mono (by decide)
    · exact (h1.mul sz1).mono (by decide)
theorem row0_sz {n : Nat} {rows : List (List Rat)} {ws : List Nat} {ss : List Sw} {p : Nat × Sw} (h : RwOk n rows ws) (hs : ∀ s ∈ ss, SwOk n s) (hp : SwOk n p.2) : ∀ x ∈ row0R rows ws ss p, Sz 60 x := by
  intro x hx
  obtain ⟨q, hq, rfl⟩ := List.mem_map.mp hx
  split
  · exact sz0.mono (by decide)
  · exact go_sz h hp (hs _ (List.mem_of_getElem? (mem_enumN hq).2))
theorem row0_len {rows : List (List Rat)} {ws : List Nat} {ss : List Sw} {p : Nat × Sw} : (row0R rows ws ss p).length = ss.length := by unfold row0R; rw [List.length_map, enumN_len]
theorem row0_sum {n : Nat} {rows : List (List Rat)} {ws : List Nat} {ss : List Sw} {p : Nat × Sw} (h : RwOk n rows ws) (hs : ∀ s ∈ ss, SwOk n s) (hp : SwOk n p.2) (hl : ss.length ≤ 12) : Sz 733 (sumR (row0R rows ws ss p)) :=
  (sz_sumR (row0_sz h hs hp)).mono (by rw [row0_len]; omega)
theorem sz_divInt {n : Nat} {i j : Int} (hi : i.natAbs < 2 ^ n) (hj : 0 < j) (hj2 : j.natAbs < 2 ^ n) : Sz n (Rat.divInt i j) := ⟨Nat.lt_of_le_of_lt (num_le i j (by omega)) hi, Nat.lt_of_le_of_lt (den_le i j (by omega)) hj2⟩
/-! ### the worth of a table at a row of numbers -/
def wtL (xs : List Int) (r : List Rat) : List Rat := (r.zip xs).map fun q => q.1 * (q.2 : Rat)
def wtR (M : List (List Rat)) (xs : List Int) : Rat := sumR ((M.zip xs).map fun p => sumR (wtL xs p.1) * (p.2 : Rat))
structure WtP (M : List (List Rat)) (xs : List Int) : Prop where
  ml : M.length ≤ 100
  rl : ∀ r ∈ M, r.length ≤ 100
  f1 : ∀ r ∈ M, ∀ q ∈ r.zip xs, Fits q.1 (q.2 : Rat)
  f2 : ∀ r ∈ M, FitsL 0 (wtL xs r)
  f3 : ∀ p ∈ M.zip xs, Fits (sumR (wtL xs p.1)) (p.2 : Rat)
  f4 : FitsL 0 ((M.zip xs).map fun p => sumR (wtL xs p.1) * (p.2 : Rat))
section
variable {P : Program} {w : World} {K : PySem.W.Frag} {mg : Str → Option Value} {base : Heap} {C : Addr}
theorem swOf_len (q : Nat × RwG) : (swOf q).length ≤ q.2.length := by
  unfold swOf
  rw [List.length_map]
  exact List.length_filter_le _ _
theorem swR_take {gs : List RwG} {i : Nat} {q : Nat × RwG} (h : (enumN gs)[i]? = some q) : ((((enumN gs).take (i + 1)).map swOf).flatten) = (((enumN gs).take i).map swOf).flatten ++ swOf q := by
  rw [map_take h, List.flatten_append]
  simp
theorem sw_len {qs : List (Nat × RwG)} (h : ∀ q ∈ qs, q.2.length ≤ 4) : ((qs.map swOf).flatten).length ≤ 4 * qs.length := by
  induction qs with
  | nil => simp
  | cons q qs ih =>
    rw [List.map_cons, List.flatten_cons, List.length_append, List.length_cons]
    have h1 := ih (fun q hq => h q (by simp [hq]))
    have h2 := swOf_len q
    have h3 := h q (by simp)
    omega
abbrev sp__law_standings (C : Addr) : Sp := Pr (ι := List RwG) (fun w => [IsL (IsRw C) w]) (fun w => w.length ≤ 10 ∧ ∀ g ∈ w, g.length ≤ 4) (fun w => IsL (IsSw C) (swR w))
abbrev Kn__law_standings (P : Program) (w : World) (K : PySem.W.Frag) (mg : Str → Option Value) (base : Heap) (C : Addr) : Prop := Kn P w K mg base "_law_standings" 3 ["guesses"] (sp__law_standings C)
theorem ok__law_standings (Z : Glo K mg C)  {f : Addr} {fd : FuncData} (Fd : FnP K "_law_standings" st__law_standings f fd) : FnOk P w K mg base CX0 3 f fd ["guesses"] (sp__law_standings C) := by
  refine fn_pr Fd sc__law_standings (fun u => by first | rfl | (cases u <;> rfl)) (fun _ => False) (fun _ _ h => h.elim) (fun X u E hX hp hE => ?_)
  obtain ⟨cdv, A, outer, s, H, E', rfl, hr⟩ := hX
  refine PSs.nox ?_
  have nd := (sc__law_standings).nd
  replace hr : Room 2 (cxOf CX0 P w K mg base N__law_standings "_law_standings" (defScope st__law_standings) f cdv A outer s H E').nox.A := hr
  rename List RwG => gs
  obtain ⟨h1, h2⟩ := hp
  have he : ∀ q ∈ enumN gs, q.2.length ≤ 4 := fun q hq => h2 _ (List.mem_of_getElem? (mem_enumN hq).2)
  refine js_seq (js_setM (Rm := LsOf (IsSw C) []) (ps_set (i := 1) nd rfl (.inl rfl) (jm_ls [] (jm_lst (pe_lst ja_nil))))) ?_
  refine js_cons (N1 := fun G => ∃ s t, G = [.fz (IsL (IsRw C) gs), .mt (LsOf (IsSw C) (swR gs)), s, t, .un, .un]) (js_for PassesOwn.never rfl (ji_enumN (Rx := IsRw C) (xs := gs) (pi_enum rfl Z.enum (ja_cons (jv 0) ja_nil))) (fun x => jg2 2 3 nd) (fun i G => ∃ s t, G = [.fz (IsL (IsRw C) gs), .mt (LsOf (IsSw C) ((((enumN gs).take i).map swOf).flatten)), s, t, .un, .un]) ⟨_, _, rfl⟩ ?_ (fun G1 h => by rwa [List.take_length] at h)) ?_
  · rintro i ⟨n, g⟩ G1 hi ⟨s, t, rfl⟩
    have hm := List.mem_of_getElem? hi
    have hg : g.length ≤ 4 := he _ hm
    refine js_one (js_N (js_extend (Rx := IsSw C) (ys := swOf (n, g)) (Rm' := LsOf (IsSw C) ((((enumN gs).take (i + 1)).map swOf).flatten)) (ps_expr (pe_bm PySem.F.plainAttrs_list PySem.F.slot_list_extend PySem.F.type_list_extend mt_extend (pv 1) (pa_cons (je_m (jm_lc (X := _) (own := [("chance", 4), ("worth", 5)]) (fun p : Rat × Nat => decide (0 < p.2)) (fun p : Rat × Nat => (n, p.1, p.2)) rfl nd (ji_list (Rx := fun p : Rat × Nat => IsTp [IsQ C p.1, IsU p.2]) (xs := g) (pi_list (jv 3))) (blkOk_by (by kernel_rfl)) (by decide) (fun s H C' cl fp x => jg2 4 5 nd) (fun s H C' cl fp x hx => jts_one (jt_eq (jt_cmp (pt_cmpR op_gt (jv 5 (R := IsU x.2)) jI (nomark _)) rop_gt) (decide_eq_decide.mpr (by omega)))) (fun s H C' cl fp x hx _ => je_tup (pe_tup (ja_cons (jv 2 (R := IsU n)) (ja_cons (jv 4) (ja_cons (jv 5) ja_nil))))) (line_of (m := 1000) (by show g.length ≤ 1000; omega)))) pa_nil))) rfl (fun vs ws F a b => ?_) (fun vs F a => ?_)) ?_)
    · rw [swR_take hi]
      exact LsOf.up (paired_app a.here b)
    · rw [← a.len]
      have h3 := sw_len (qs := (enumN gs).take i) (fun q hq => he q (List.mem_of_mem_take hq))
      have h4 := swOf_len (n, g)
      have h5 : ((enumN gs).take i).length ≤ 10 := by rw [List.length_take, enumN_len]; omega
      have h6 : (100000 : Nat) ≤ sizeLine := by decide
      have h7 : (swOf (n, g)).length ≤ 4 := Nat.le_trans h4 hg
      omega
    · rintro G' rfl
      exact ⟨_, _, rfl⟩
  · rintro _ ⟨s, t, rfl⟩
    exact js_one (js_retV (pv 1) rfl)
abbrev sp__law_goes (C : Addr) : Sp := Pr (ι := List (List Rat) × List Nat × Sw × Sw) (fun w => [IsQM C w.1, IsL IsU w.2.1, IsSw C w.2.2.1, IsSw C w.2.2.2]) (fun w => ∃ n, RwOk n w.1 w.2.1 ∧ SwOk n w.2.2.1 ∧ SwOk n w.2.2.2) (fun w => IsQ C (goR w.1 w.2.1 w.2.2.1 w.2.2.2))
abbrev Kn__law_goes (P : Program) (w : World) (K : PySem.W.Frag) (mg : Str → Option Value) (base : Heap) (C : Addr) : Prop := Kn P w K mg base "_law_goes" 9 ["rows", "weights", "near", "far"] (sp__law_goes C)
theorem ok__law_goes (Z : Glo K mg C) (mk : Mkr P w K mg base C 2) (omul : Opr P w K mg base C .Mult 6 (fun w => Fits w.1 w.2) (· * ·)) (mover : MethK P w K mg base C "over" 6 ["self", "other"] (sp_Rover C)) (mbelow : MethK P w K mg base C "is_below" 6 ["self", "other"] (sp_Ris_below C)) (psign : PropK P w K mg base C "sign" 1 (sp_Rsign C)) {f : Addr} {fd : FuncData} (Fd : FnP K "_law_goes" st__law_goes f fd) : FnOk P w K mg base CX0 9 f fd ["rows", "weights", "near", "far"] (sp__law_goes C) := by
  refine fn_pr Fd sc__law_goes (fun u => by first | rfl | (cases u <;> rfl)) (fun _ => False) (fun _ _ h => h.elim) (fun X u E hX hp hE => ?_)
  obtain ⟨cdv, A, outer, s, H, E', rfl, hr⟩ := hX
  refine PSs.nox ?_
  have nd := (sc__law_goes).nd
  replace hr : Room 8 (cxOf CX0 P w K mg base N__law_goes "_law_goes" (defScope st__law_goes) f cdv A outer s H E').nox.A := hr
  obtain ⟨rows, ws, a, b⟩ := u
  obtain ⟨n, hR, ha, hb⟩ := hp
  have hR : RwOk n rows ws := hR
  have ha : SwOk n a := ha
  have hb : SwOk n b := hb
  have la := ha.lt
  have lb := hb.lt
  have ll := hR.rl
  have lw := hR.wl
  have ra : (rows[a.1]!).length = n := hR.rr _ (get_mem (by omega))
  have rb : (rows[b.1]!).length = n := hR.rr _ (get_mem (by omega))
  refine js_seq (js_par (i := 4) (j := 5) (Ra := IsQ C (thR rows a b)) (Rb := IsQ C (thR rows b a)) (ps_par (i := 4) (j := 5) rfl nd rfl rfl (by decide) rfl rfl (pa_cons (je_op (pe_ix ix_list (je_op (pe_ix ix_list (jv 0 (R := IsQM C rows)) (je_op (pe_ix ix_tup (jv 2 (R := IsSw C a)) jI (fun _ _ => rfl)) (rop_ixT (j := 0) rfl)) (fun _ _ => rfl)) (rop_ixB (by omega))) (je_op (pe_ix ix_tup (jv 3 (R := IsSw C b)) jI (fun _ _ => rfl)) (rop_ixT (j := 0) rfl)) (fun _ _ => rfl)) (rop_ixB (by omega))) (pa_cons (je_op (pe_ix ix_list (je_op (pe_ix ix_list (jv 0 (R := IsQM C rows)) (je_op (pe_ix ix_tup (jv 3 (R := IsSw C b)) jI (fun _ _ => rfl)) (rop_ixT (j := 0) rfl)) (fun _ _ => rfl)) (rop_ixB (by omega))) (je_op (pe_ix ix_tup (jv 2 (R := IsSw C a)) jI (fun _ _ => rfl)) (rop_ixT (j := 0) rfl)) (fun _ _ => rfl)) (rop_ixB (by omega))) pa_nil)) rfl)) ?_
  refine js_cons (N1 := fun G => (¬ (thR rows a b = 0 ∨ thR rows b a = 0)) ∧ G = [.fz (IsQM C rows), .fz (IsL IsU ws), .fz (IsSw C a), .fz (IsSw C b), .fz (IsQ C (thR rows a b)), .fz (IsQ C (thR rows b a)), .un]) (js_if (b1 := decide (thR rows a b = 0) || decide (thR rows b a = 0)) (PW.pt (jw_or (jt_eq (jt_cmp (pt_cmpR op_eq (jprop psign (hr.mono (by decide)) (thR rows a b) (jv 4) rfl trivial rfl) jI (nomark _)) rop_eqI) (q_sgn_0 _)) fun _ => jw_or1 (jt_eq (jt_cmp (pt_cmpR op_eq (jprop psign (hr.mono (by decide)) (thR rows b a) (jv 5) rfl trivial rfl) jI (nomark _)) rop_eqI) (q_sgn_0 _)))) (fun h => js_one (js_ret (je_eq (jmk1 mk (hr.mono (by decide)) (ja_cons jI ja_nil)) ?_))) (fun h => js_nil ⟨?_, rfl⟩)) ?_
  · rw [Bool.or_eq_true, decide_eq_true_eq, decide_eq_true_eq] at h
    show IsQ C ((0 : Int) : Rat) = IsQ C (goR rows ws a b)
    unfold goR
    rw [if_pos h]
    rfl
  · rw [Bool.or_eq_false_iff, decide_eq_false_iff_not, decide_eq_false_iff_not] at h
    exact fun e => e.elim h.1 h.2
  rintro _ ⟨hn, rfl⟩
  have h0 : thR rows a b ≠ 0 := fun e => hn (.inl e)
  have hq := qu_sz hR ha hb h0
  have t1 := th_sz hR ha hb
  have t2 := th_sz hR hb ha
  have hwa := wn_sz hR ha
  have hwb := wn_sz hR hb
  have wa := hR.w _ (get_mem (xs := ws) (i := a.1) (by omega))
  have wb := hR.w _ (get_mem (xs := ws) (i := b.1) (by omega))
  have a1 := ha.hi
  have b1 := hb.hi
  have q1 : IsQ C (quR rows ws a b) = IsQ C (quR rows ws a b) := rfl
  refine js_seq (js_set (R := IsQ C (quR rows ws a b)) (ps_set (i := 6) nd rfl (.inl rfl) (jmeth mover (hr.mono (by decide)) (thR rows b a * (wnR ws b : Rat), thR rows a b * (wnR ws a : Rat)) (joQI (i := wnR ws b) omul (hr.mono (by decide)) (jv 5) (je_op (pe_op op_mulW (je_op (pe_ix ix_list (jv 1 (R := IsL IsU ws)) (je_op (pe_ix ix_tup (jv 3 (R := IsSw C b)) jI (fun _ _ => rfl)) (rop_ixT (j := 0) rfl)) (fun _ _ => rfl)) (rop_ixB (by omega))) (je_op (pe_ix ix_tup (jv 3 (R := IsSw C b)) jI (fun _ _ => rfl)) (rop_ixT (j := 2) rfl))) (rop_mulW (mulW_of (n := 20) (m := 20) (by omega) (by omega) (by decide) (by decide) (by decide)))) (t2.fits hwb (by decide))) (ja_cons (je_conv (joQI (i := wnR ws a) omul (hr.mono (by decide)) (jv 4) (je_op (pe_op op_mulW (je_op (pe_ix ix_list (jv 1 (R := IsL IsU ws)) (je_op (pe_ix ix_tup (jv 2 (R := IsSw C a)) jI (fun _ _ => rfl)) (rop_ixT (j := 0) rfl)) (fun _ _ => rfl)) (rop_ixB (by omega))) (je_op (pe_ix ix_tup (jv 2 (R := IsSw C a)) jI (fun _ _ => rfl)) (rop_ixT (j := 2) rfl))) (rop_mulW (mulW_of (n := 20) (m := 20) (by omega) (by omega) (by decide) (by decide) (by decide)))) (t1.fits hwa (by decide))) isQ_nm) ja_nil) rfl ((t2.mul hwb).fitsO (t1.mul hwa) (q_mul_ne h0 (wn_ne hR ha)) (by decide))))) ?_
  by_cases hlt : quR rows ws a b < ((1 : Int) : Rat)
  · refine js_one (js_ret (je_eq (joQ omul (hr.mono (by decide)) (joQ omul (hr.mono (by decide)) (jv 4) (je_op (pe_ix ix_tup (jv 3 (R := IsSw C b)) jI (fun _ _ => rfl)) (rop_ixT (j := 1) rfl)) (t1.fits hb.c (by decide))) (je_if (R := IsQ C (quR rows ws a b)) (b1 := true) (jt_eq (jt_val (pt_val (jmeth mbelow (hr.mono (by decide)) (quR rows ws a b, ((1 : Int) : Rat)) (jv 6) (ja_cons (je_conv (R := IsI 1) jI (fun v F h => .inr ⟨1, rfl, h⟩)) ja_nil) rfl (hq.fits sz1 (by decide))))) (decide_eq_true hlt)) (fun _ => jv 6) (fun h => nomatch h)) ((t1.mul hb.c).fits hq (by decide))) ?_))
    show IsQ C _ = IsQ C (goR rows ws a b)
    unfold goR
    rw [if_neg hn, if_pos hlt]
  · refine js_one (js_ret (je_eq (joQI (i := 1) omul (hr.mono (by decide)) (joQ omul (hr.mono (by decide)) (jv 4) (je_op (pe_ix ix_tup (jv 3 (R := IsSw C b)) jI (fun _ _ => rfl)) (rop_ixT (j := 1) rfl)) (t1.fits hb.c (by decide))) (je_if (R := IsI 1) (b1 := false) (jt_eq (jt_val (pt_val (jmeth mbelow (hr.mono (by decide)) (quR rows ws a b, ((1 : Int) : Rat)) (jv 6) (ja_cons (je_conv (R := IsI 1) jI (fun v F h => .inr ⟨1, rfl, h⟩)) ja_nil) rfl (hq.fits sz1 (by decide))))) (decide_eq_false hlt)) (fun h => nomatch h) (fun _ => jI)) ((t1.mul hb.c).fits sz1 (by decide))) ?_))
    show IsQ C _ = IsQ C (goR rows ws a b)
    unfold goR
    rw [if_neg hn, if_neg hlt]
end
end Gw
set_option maxHeartbeats 4000000
namespace Gw
open PySem PySem.Spec PyProof.Rows L2
section
variable {P : Program} {w : World} {K : PySem.W.Frag} {mg : Str → Option Value} {base : Heap} {C : Addr}
abbrev sp__law_chances (C : Addr) : Sp := Pr (ι := List (List Rat) × List Nat × List Sw) (fun w => [IsQM C w.1, IsL IsU w.2.1, IsL (IsSw C) w.2.2]) (fun w => ∃ n, RwOk n w.1 w.2.1 ∧ w.2.2.length ≤ 12 ∧ ∀ s ∈ w.2.2, SwOk n s) (fun w => IsQM C (chR w.1 w.2.1 w.2.2))
abbrev Kn__law_chances (P : Program) (w : World) (K : PySem.W.Frag) (mg : Str → Option Value) (base : Heap) (C : Addr) : Prop := Kn P w K mg base "_law_chances" 13 ["rows", "weights", "standings"] (sp__law_chances C)
theorem ok__law_chances (Z : Glo K mg C) (mk : Mkr P w K mg base C 2) (orsub : OprR P w K mg base C .Sub 6 (fun w => Fits w.1 w.2) (fun q r => r - q)) (ctotal : CmK P w K mg base C "total" 12 (sp_Rtotal C)) (k__law_goes : Kn__law_goes P w K mg base C) {f : Addr} {fd : FuncData} (Fd : FnP K "_law_chances" st__law_chances f fd) : FnOk P w K mg base CX0 13 f fd ["rows", "weights", "standings"] (sp__law_chances C) := by
  refine fn_pr Fd sc__law_chances (fun u => by first | rfl | (cases u <;> rfl)) (fun _ => False) (fun _ _ h => h.elim) (fun X u E hX hp hE => ?_)
  obtain ⟨cdv, A, outer, s, H, E', rfl, hr⟩ := hX
  refine PSs.nox ?_
  have nd := (sc__law_chances).nd
  replace hr : Room 12 (cxOf CX0 P w K mg base N__law_chances "_law_chances" (defScope st__law_chances) f cdv A outer s H E').nox.A := hr
  obtain ⟨rows, ws, ss⟩ := u
  obtain ⟨n, hR, hl, hs⟩ := hp
  have hR : RwOk n rows ws := hR
  have hl : ss.length ≤ 12 := hl
  have hs : ∀ s ∈ ss, SwOk n s := hs
  refine js_seq (js_setM (Rm := LsOf (IsL (IsQ C)) []) (ps_set (i := 3) nd rfl (.inl rfl) (jm_ls [] (jm_lst (pe_lst ja_nil))))) ?_
  refine js_cons (N1 := fun G => ∃ s4 s5 s6, G = [.fz (IsQM C rows), .fz (IsL IsU ws), .fz (IsL (IsSw C) ss), .mt (LsOf (IsL (IsQ C)) ((enumN ss).map (rowC rows ws ss))), s4, s5, s6, .un, .un]) (js_for PassesOwn.never rfl (ji_enumN (Rx := IsSw C) (xs := ss) (pi_enum rfl Z.enum (ja_cons (jv 2) ja_nil))) (fun x => jg2 4 5 nd)
    (fun i G => ∃ s4 s5 s6, G = [.fz (IsQM C rows), .fz (IsL IsU ws), .fz (IsL (IsSw C) ss), .mt (LsOf (IsL (IsQ C)) (((enumN ss).take i).map (rowC rows ws ss))), s4, s5, s6, .un, .un]) ⟨_, _, _, rfl⟩ ?_ (fun G1 h => by rwa [List.take_length] at h)) ?_
  · rintro i p G1 hi ⟨s4, s5, s6, rfl⟩
    obtain ⟨pl, pe⟩ := mem_enumN (List.mem_of_getElem? hi)
    have hpm := List.mem_of_getElem? pe
    have hps := hs _ hpm
    have hll : (row0R rows ws ss p).length = ss.length := row0_len
    have hsz := row0_sz hR hs hps
    have hsum := row0_sum hR hs hps hl
    refine js_seq (jslc (i := 6) (Ry := IsQ C) (fun q : Nat × Sw => if p.1 = q.1 then 0 else goR rows ws p.2 q.2) [("far", 7), ("to", 8)] nd (ji_enumN (Rx := IsSw C) (xs := ss) (pi_enum rfl Z.enum (ja_cons (jv 2) ja_nil))) (fun s H C' cl fp x => jg2 8 7 nd) (fun s H C' cl fp q hq => je_if (b1 := decide ((p.1 : Int) = (q.1 : Int))) (jt_cmp (pt_cmpR op_eq (jv 4 (R := IsU p.1)) (jv 8 (R := IsU q.1)) (nomark _)) rop_eqI) (fun h => je_eq (jmk1 mk (hr.mono (by decide)) (ja_cons jI ja_nil)) ?_) (fun h => je_eq (jc k__law_goes (hr.mono (by decide)) (rows, ws, p.2, q.2) (ja_cons (jv 0) (ja_cons (jv 1) (ja_cons (jv 5 (R := IsSw C p.2)) (ja_cons (jv 7 (R := IsSw C q.2)) ja_nil)))) ⟨n, hR, hps, hs _ (List.mem_of_getElem? (mem_enumN hq).2)⟩) ?_)) (line_of (m := 1000) (by rw [enumN_len]; omega))) ?_
    · have h := of_decide_eq_true h
      rw [if_pos (by omega)]
      rfl
    · have h := of_decide_eq_false h
      rw [if_neg (by omega)]
    have er : (enumN ss).map (fun q : Nat × Sw => if p.1 = q.1 then 0 else goR rows ws p.2 q.2) = row0R rows ws ss p := rfl
    rw [er]
    refine js_seq (js_setitem (i := 6) (k := (p.1 : Int)) (j := p.1) (R := IsQ C (((1 : Int) : Rat) - sumR (row0R rows ws ss p))) (Rm' := LsOf (IsQ C) (rowC rows ws ss p)) (ti := fun _ _ _ => True) (ps_asg (je_viewQ (i := 6) rfl (joIQ_sub (i := 1) orsub (hr.mono (by decide)) jI (jcm ctotal hr (row0R rows ws ss p) rfl Z.rat (ja_cons (jv 6 (R := IsL (IsQ C) (row0R rows ws ss p))) ja_nil) rfl ⟨FitsL.zero hsz (by rw [hll]; omega), by omega⟩) (hsum.fits sz1 (by decide)))) (pg_sub (pv 6) (jv 4 (R := IsU p.1)) set_list)) rfl (fun vs F q => gw_ixN (by rw [← q.len, hll]; exact pl)) (fun vs v F a b => LsOf.up (paired_set a.here b p.1))) ?_
    refine js_one (js_N (js_appendM (i := 3) (j := 6) (Rm' := LsOf (IsL (IsQ C)) (((enumN ss).take (i + 1)).map (rowC rows ws ss))) (ps_expr (pe_bm PySem.F.plainAttrs_list PySem.F.slot_list_append PySem.F.type_list_append mt_append (pv 3) (pa_cons (pv 6) pa_nil))) (by decide) rfl rfl (fun vs v F a b => ?_) (fun vs F a => ?_)) ?_)
    · rw [map_take hi]
      exact (a.here.snoc b).up
    · rw [← a.len, List.length_map, List.length_take, enumN_len]
      exact line_of (m := 1000) (by omega)
    · rintro G' rfl
      exact ⟨_, _, _, rfl⟩
  · rintro _ ⟨s4, s5, s6, rfl⟩
    exact js_one (js_retV (pv 3) rfl)
abbrev sp__law_shares (C : Addr) : Sp := Pr (ι := List Nat × List Sw) (fun w => [IsL IsU w.1, IsL (IsSw C) w.2]) (fun w => w.2.length ≤ 12 ∧ (∀ s ∈ w.2, SwOk w.1.length s) ∧ (∀ x ∈ w.1, 1 ≤ x ∧ x ≤ 4) ∧ w.1.length ≤ 10 ∧ 1 ≤ sumN w.1 ∧ sumN w.1 ≤ 40) (fun w => IsL (IsQ C) (shR w.1 w.2))
abbrev Kn__law_shares (P : Program) (w : World) (K : PySem.W.Frag) (mg : Str → Option Value) (base : Heap) (C : Addr) : Prop := Kn P w K mg base "_law_shares" 7 ["weights", "standings"] (sp__law_shares C)
theorem ok__law_shares (Z : Glo K mg C) (mk : Mkr P w K mg base C 2) (omul : Opr P w K mg base C .Mult 6 (fun w => Fits w.1 w.2) (· * ·)) {f : Addr} {fd : FuncData} (Fd : FnP K "_law_shares" st__law_shares f fd) : FnOk P w K mg base CX0 7 f fd ["weights", "standings"] (sp__law_shares C) := by
  refine fn_pr Fd sc__law_shares (fun u => by first | rfl | (cases u <;> rfl)) (fun _ => False) (fun _ _ h => h.elim) (fun X u E hX hp hE => ?_)
  obtain ⟨cdv, A, outer, s, H, E', rfl, hr⟩ := hX
  refine PSs.nox ?_
  have nd := (sc__law_shares).nd
  replace hr : Room 6 (cxOf CX0 P w K mg base N__law_shares "_law_shares" (defScope st__law_shares) f cdv A outer s H E').nox.A := hr
  obtain ⟨ws, ss⟩ := u
  obtain ⟨h1, h2, h3, h4, h5, h6⟩ : ss.length ≤ 12 ∧ (∀ s ∈ ss, SwOk ws.length s) ∧ (∀ x ∈ ws, 1 ≤ x ∧ x ≤ 4) ∧ ws.length ≤ 10 ∧ 1 ≤ sumN ws ∧ sumN ws ≤ 40 := hp
  refine js_one (js_ret (je_m (jlc (Ry := IsQ C) (fun s : Sw => Rat.divInt (wnR ws s) (12 * sumN ws) * s.2.1) [("chance", 2), ("place", 3), ("worth", 4)] nd (ji_list (Rx := IsSw C) (xs := ss) (pi_list (jv 1))) (fun s H C' cl fp x => jg3 3 2 4 nd) (fun s H C' cl fp x hx => ?_) (line_of (m := 1000) (by omega)))))
  have lx := (h2 x hx).lt
  have wx := h3 _ (get_mem (xs := ws) (i := x.1) lx)
  have x1 := (h2 x hx).hi
  have hw1 : (wnR ws x).natAbs < 2 ^ 10 := by
    have := Int.mul_le_mul (by omega : (ws[x.1]! : Int) ≤ 4) (by omega : (x.2.2 : Int) ≤ 100) (by omega) (by omega)
    have h0 : 0 ≤ (ws[x.1]! : Int) * (x.2.2 : Int) := Int.mul_nonneg (by omega) (by omega)
    unfold wnR
    omega
  have hd : Sz 10 (Rat.divInt (wnR ws x) (12 * sumN ws)) := sz_divInt hw1 (by omega) (by omega)
  refine joQ (q := Rat.divInt (wnR ws x) (12 * sumN ws)) (r := x.2.1) omul (hr.mono (by decide)) (jmk2 mk (hr.mono (by decide)) (ja_cons (je_op (pe_op op_mulW (je_op (pe_ix ix_list (jv 0 (R := IsL IsU ws)) (jv 3 (R := IsU x.1)) (fun _ _ => rfl)) (rop_ixB lx)) (jv 4 (R := IsU x.2.2))) (rop_mulW (mulW_of (n := 20) (m := 20) (by omega) (by omega) (by decide) (by decide) (by decide)))) (ja_cons (je_op (pe_op op_mulW jI (jbB (cr_sum rfl) Z.sum boot_sum (ja_cons (je_conv (jv 0 (R := IsL IsU ws)) isU_lst) ja_nil) rc_sum)) (rop_mulW (i := 12) (mulW_of (n := 20) (m := 20) (by decide) ?_ (by decide) (by decide) (by decide)))) ja_nil)) ⟨?_, ?_⟩) (jv 2 (R := IsQ C x.2.1)) (hd.fits (h2 x hx).c (by decide))
  · show (sumN ws).natAbs < 2 ^ 20
    omega
  · show 12 * sumN ws ≠ 0
    omega
  · show Nat.log2 (12 * sumN ws).natAbs < _
    exact log2_lt (n := 9000) (by decide) (Nat.lt_of_le_of_lt (by omega : (12 * sumN ws).natAbs ≤ 480) (Nat.lt_of_lt_of_le (by decide : (480 : Nat) < 2 ^ 9) (Nat.pow_le_pow_right (by decide) (by decide))))
abbrev sp__law_worth (C : Addr) : Sp := Pr (ι := List (List Rat) × List Int) (fun w => [IsQM C w.1, IsL IsI w.2]) (fun w => WtP w.1 w.2) (fun w => IsQ C (wtR w.1 w.2))
abbrev Kn__law_worth (P : Program) (w : World) (K : PySem.W.Frag) (mg : Str → Option Value) (base : Heap) (C : Addr) : Prop := Kn P w K mg base "_law_worth" 13 ["table", "row"] (sp__law_worth C)
theorem ok__law_worth (Z : Glo K mg C) (omul : Opr P w K mg base C .Mult 6 (fun w => Fits w.1 w.2) (· * ·)) (ctotal : CmK P w K mg base C "total" 12 (sp_Rtotal C)) {f : Addr} {fd : FuncData} (Fd : FnP K "_law_worth" st__law_worth f fd) : FnOk P w K mg base CX0 13 f fd ["table", "row"] (sp__law_worth C) := by
  refine fn_pr Fd sc__law_worth (fun u => by first | rfl | (cases u <;> rfl)) (fun _ => False) (fun _ _ h => h.elim) (fun X u E hX hp hE => ?_)
  obtain ⟨cdv, A, outer, s, H, E', rfl, hr⟩ := hX
  refine PSs.nox ?_
  have nd := (sc__law_worth).nd
  replace hr : Room 12 (cxOf CX0 P w K mg base N__law_worth "_law_worth" (defScope st__law_worth) f cdv A outer s H E').nox.A := hr
  obtain ⟨M, xs⟩ := u
  have hp : WtP M xs := hp
  have hml := hp.ml
  refine js_one (js_ret (jcm ctotal hr ((M.zip xs).map fun p => sumR (wtL xs p.1) * (p.2 : Rat)) rfl Z.rat (ja_cons (je_m (jlc (Ry := IsQ C) (fun p : List Rat × Int => sumR (wtL xs p.1) * (p.2 : Rat)) [("line", 3), ("near", 4)] nd (ji_zip (Rx := IsL (IsQ C)) (Ry := IsI) (xs := M) (ys := xs) (pi_zip rfl Z.zip (ja_cons (jv 0) (ja_cons (jv 1) ja_nil)))) (fun s H C' cl fp x => jg2 3 4 nd) (fun s H C' cl fp p hx => ?_) (line_of (m := 1000) (by rw [List.length_zip]; omega)))) ja_nil) rfl ⟨hp.f4, by rw [List.length_map, List.length_zip]; omega⟩))
  have hr1 : p.1 ∈ M := (List.of_mem_zip (show (p.1, p.2) ∈ M.zip xs from hx)).1
  have hrl := hp.rl _ hr1
  exact joQI (i := p.2) omul (hr.mono (by decide)) (jcm ctotal hr (wtL xs p.1) rfl Z.rat (ja_cons (je_m (jlc (Ry := IsQ C) (fun q : Rat × Int => q.1 * (q.2 : Rat)) [("far", 2), ("number", 5)] nd (ji_zip (Rx := IsQ C) (Ry := IsI) (xs := p.1) (ys := xs) (pi_zip rfl Z.zip (ja_cons (jv 3 (R := IsL (IsQ C) p.1)) (ja_cons (jv 1 (R := IsL IsI xs)) ja_nil)))) (fun s H C' cl fp x => jg2 5 2 nd) (fun s H C' cl fp q hq => joQI (i := q.2) omul (hr.mono (by decide)) (jv 5 (R := IsQ C q.1)) (jv 2 (R := IsI q.2)) (hp.f1 _ hr1 q hq)) (line_of (m := 1000) (by rw [List.length_zip]; omega)))) ja_nil) rfl ⟨hp.f2 _ hr1, by unfold wtL; rw [List.length_map, List.length_zip]; omega⟩) (jv 4 (R := IsI p.2)) (hp.f3 p hx)
end
end Gw
set_option maxHeartbeats 4000000
namespace Gw
open PySem PySem.Spec PyProof.Rows L2
/-! ### rows with goals behind them, cleared place by place -/
def lf0 (rows goals : List (List Rat)) : List (List Rat) := (enumN rows).map fun p => p.2 ++ goals.map fun g => g[p.1]!
def pivL (left : List (List Rat)) (n p : Nat) : List Nat := (fromTo p n).filter fun s => !decide ((left[s]!)[p]! = 0)
def swpR (left : List (List Rat)) (p a : Nat) : List (List Rat) := (left.set p left[a]!).set a left[p]!
def hdR (left : List (List Rat)) (p : Nat) : List Rat := (left[p]!).map fun one => one / (left[p]!)[p]!
def rowS (head : List Rat) (p : Nat) (q : Nat × List Rat) : List Rat := if q.1 = p then head else (q.2.zip head).map fun t => t.1 - (q.2[p]!) * t.2
def clrR (left : List (List Rat)) (p : Nat) : List (List Rat) := (enumN left).map (rowS (hdR left p) p)
def stS (left : List (List Rat)) (p : Nat) : List (List Rat) := clrR (swpR left p (pivL left left.length p)[0]!) p
def solS (rows goals : List (List Rat)) (k : Nat) : List (List Rat) := (List.range k).foldl stS (lf0 rows goals)
def solR (rows goals : List (List Rat)) : List (List Rat) := (List.range goals.length).map fun c => (List.range rows.length).map fun s => ((solS rows goals rows.length)[s]!)[rows.length + c]!
structure SlvP (rows goals : List (List Rat)) : Prop where
  n : rows.length ≤ 20
  rl : ∀ r ∈ rows, r.length = rows.length
  gn : goals.length ≤ 20
  gr : ∀ g ∈ goals, rows.length ≤ g.length
  pv : ∀ k, k < rows.length → pivL (solS rows goals k) rows.length k ≠ []
  f1 : ∀ k, k < rows.length → ∀ L, L = swpR (solS rows goals k) k (pivL (solS rows goals k) rows.length k)[0]! → ∀ one ∈ L[k]!, FitsO one (L[k]!)[k]!
  f2 : ∀ k, k < rows.length → ∀ L, L = swpR (solS rows goals k) k (pivL (solS rows goals k) rows.length k)[0]! → ∀ r ∈ L, ∀ t ∈ r.zip (hdR L k), Fits (r[k]!) t.2 ∧ Fits t.1 (r[k]! * t.2)
theorem solS_succ (rows goals : List (List Rat)) (k : Nat) : solS rows goals (k + 1) = stS (solS rows goals k) k := by
  unfold solS
  rw [List.range_succ, List.foldl_append]
  rfl
theorem lf0_len (rows goals : List (List Rat)) : (lf0 rows goals).length = rows.length := by unfold lf0; rw [List.length_map, enumN_len]
theorem swpR_len (left : List (List Rat)) (p a : Nat) : (swpR left p a).length = left.length := by unfold swpR; rw [List.length_set, List.length_set]
theorem clrR_len (left : List (List Rat)) (p : Nat) : (clrR left p).length = left.length := by unfold clrR; rw [List.length_map, enumN_len]
theorem stS_len (left : List (List Rat)) (p : Nat) : (stS left p).length = left.length := by unfold stS; rw [clrR_len, swpR_len]
theorem solS_len (rows goals : List (List Rat)) (k : Nat) : (solS rows goals k).length = rows.length := by
  induction k with
  | zero => exact lf0_len rows goals
  | succ k ih => rw [solS_succ, stS_len, ih]
theorem swpR_row {left : List (List Rat)} {p a m : Nat} (hp : p < left.length) (ha : a < left.length) (h : ∀ r ∈ left, r.length = m) : ∀ r ∈ swpR left p a, r.length = m := by
  intro r hr
  rcases List.mem_or_eq_of_mem_set hr with q | q
  · rcases List.mem_or_eq_of_mem_set q with q | q
    · exact h r q
    · rw [q]; exact h _ (get_mem ha)
  · rw [q]; exact h _ (get_mem hp)
theorem clrR_row {left : List (List Rat)} {p m : Nat} (hp : p < left.length) (h : ∀ r ∈ left, r.length = m) : ∀ r ∈ clrR left p, r.length = m := by
  intro r hr
  obtain ⟨q, hq, rfl⟩ := List.mem_map.mp hr
  have h1 : (hdR left p).length = m := by unfold hdR; rw [List.length_map]; exact h _ (get_mem hp)
  unfold rowS
  split
  · exact h1
  · rw [List.length_map, List.length_zip, h1, h _ (List.mem_of_getElem? (mem_enumN hq).2), Nat.min_self]
theorem gw_mem_ft {a n x : Nat} : x ∈ fromTo a n ↔ a ≤ x ∧ x < n := by
  unfold fromTo
  rw [List.mem_map]
  constructor
  · rintro ⟨i, hi, rfl⟩
    have := List.mem_range.mp hi
    omega
  · rintro ⟨h1, h2⟩
    exact ⟨x - a, List.mem_range.mpr (by omega), by omega⟩
theorem gw_ft_len {a n : Nat} : (fromTo a n).length = n - a := by simp [fromTo]
theorem mem_pivL {left : List (List Rat)} {n p s : Nat} : s ∈ pivL left n p ↔ (p ≤ s ∧ s < n) ∧ (left[s]!)[p]! ≠ 0 := by
  unfold pivL
  rw [List.mem_filter, gw_mem_ft]
  simp
theorem SlvP.row {rows goals : List (List Rat)} (h : SlvP rows goals) (k : Nat) (hk : k ≤ rows.length) : ∀ r ∈ solS rows goals k, r.length = rows.length + goals.length := by
  induction k with
  | zero =>
    intro r hr
    obtain ⟨q, hq, rfl⟩ := List.mem_map.mp hr
    rw [List.length_append, List.length_map, h.rl _ (List.mem_of_getElem? (mem_enumN hq).2)]
  | succ k ih =>
    have hk' : k < rows.length := hk
    have ih := ih (by omega)
    rw [solS_succ]
    unfold stS
    have hlen := solS_len rows goals k
    have hne := h.pv k hk'
    have hm : (pivL (solS rows goals k) rows.length k)[0]! ∈ pivL (solS rows goals k) rows.length k := get_mem (List.length_pos_iff.mpr hne)
    obtain ⟨⟨_, h2⟩, _⟩ := mem_pivL.mp hm
    rw [hlen]
    exact clrR_row (by rw [swpR_len, hlen]; exact hk') (swpR_row (by omega) (by omega) ih)
section
variable {P : Program} {w : World} {K : PySem.W.Frag} {mg : Str → Option Value} {base : Heap} {C : Addr}
abbrev sp__law_solved (C : Addr) : Sp := Pr (ι := List (List Rat) × List (List Rat)) (fun w => [IsQM C w.1, IsQM C w.2]) (fun w => SlvP w.1 w.2) (fun w => IsQM C (solR w.1 w.2))
abbrev Kn__law_solved (P : Program) (w : World) (K : PySem.W.Frag) (mg : Str → Option Value) (base : Heap) (C : Addr) : Prop := Kn P w K mg base "_law_solved" 8 ["rows", "goals"] (sp__law_solved C)
theorem ok__law_solved (Z : Glo K mg C) (osub : Opr P w K mg base C .Sub 6 (fun w => Fits w.1 w.2) (· - ·)) (omul : Opr P w K mg base C .Mult 6 (fun w => Fits w.1 w.2) (· * ·)) (mover : MethK P w K mg base C "over" 6 ["self", "other"] (sp_Rover C)) (psign : PropK P w K mg base C "sign" 1 (sp_Rsign C)) {f : Addr} {fd : FuncData} (Fd : FnP K "_law_solved" st__law_solved f fd) : FnOk P w K mg base CX0 8 f fd ["rows", "goals"] (sp__law_solved C) := by
  refine fn_pr Fd sc__law_solved (fun u => by first | rfl | (cases u <;> rfl)) (fun _ => False) (fun _ _ h => h.elim) (fun X u E hX hp hE => ?_)
  obtain ⟨cdv, A, outer, s, H, E', rfl, hr⟩ := hX
  refine PSs.nox ?_
  have nd := (sc__law_solved).nd
  replace hr : Room 7 (cxOf CX0 P w K mg base N__law_solved "_law_solved" (defScope st__law_solved) f cdv A outer s H E').nox.A := hr
  obtain ⟨rows, goals⟩ := u
  have hp : SlvP rows goals := hp
  have hn := hp.n
  have hgn := hp.gn
  refine js_seq (js_setM (i := 4) (Rm := LsOf (IsL (IsQ C)) (solS rows goals 0)) (ps_set (i := 4) nd rfl (.inr rfl) (jlc (Ry := IsL (IsQ C)) (fun p : Nat × List Rat => p.2 ++ goals.map fun g => g[p.1]!) [("at", 2), ("row", 3)] nd (ji_enumN (Rx := IsL (IsQ C)) (xs := rows) (pi_enum rfl Z.enum (ja_cons (jv 0) ja_nil))) (fun s H C' cl fp x => jg2 2 3 nd) (fun s H C' cl fp p hx => je_m (jm_op (pe_op op_cat (jv 3 (R := IsL (IsQ C) p.2)) (je_m (jlc (Ry := IsQ C) (fun g : List Rat => g[p.1]!) [("goal", 9)] nd (ji_list (Rx := IsL (IsQ C)) (xs := goals) (pi_list (jv 1))) (fun s H C' cl fp x => jg1 9 nd) (fun s H C' cl fp g hg => je_op (pe_ix ix_list (jv 9 (R := IsL (IsQ C) g)) (jv 2 (R := IsU p.1)) (fun _ _ => rfl)) (rop_ixB (by have := hp.gr g hg; have := (mem_enumN hx).1; omega))) (line_of (m := 1000) (by omega))))) (rop_cat (by rw [hp.rl _ (List.mem_of_getElem? (mem_enumN hx).2), List.length_map]; omega)))) (line_of (m := 1000) (by rw [enumN_len]; omega))))) ?_
  refine js_cons (N1 := fun G => ∃ s2 s3 s5 s6 s7, G = [.fz (IsQM C rows), .fz (IsQM C goals), s2, s3, .mt (LsOf (IsL (IsQ C)) (solS rows goals rows.length)), s5, s6, s7, .un, .un, .un, .un]) (js_for PassesOwn.never rfl (ji_rangeN (n := rows.length) (by omega) (pi_range1 rfl Z.range (ja_cons (jbB call_len Z.len boot_len (ja_cons (jv 0 (R := IsQM C rows)) ja_nil) rc_len) ja_nil))) (fun x => jg1 5 nd) (fun i G => ∃ s2 s3 s5 s6 s7, G = [.fz (IsQM C rows), .fz (IsQM C goals), s2, s3, .mt (LsOf (IsL (IsQ C)) (solS rows goals i)), s5, s6, s7, .un, .un, .un, .un]) ⟨_, _, _, _, _, rfl⟩ ?_ (fun G1 h => by rwa [List.length_range] at h)) ?_
  · rintro i p G1 hi ⟨s2, s3, s5, s6, s7, rfl⟩
    have hpn : p < rows.length := List.mem_range.mp (List.mem_of_getElem? hi)
    have hpi : p = i := by
      have := (List.getElem?_eq_some_iff.mp hi).2
      rw [List.getElem_range] at this
      exact this.symm
    subst hpi
    have hlen := solS_len rows goals p
    have hrow := hp.row p (by omega)
    have hne := hp.pv p hpn
    have hf1 := hp.f1 p hpn _ rfl
    have hf2 := hp.f2 p hpn _ rfl
    have hs : solS rows goals (p + 1) = clrR (swpR (solS rows goals p) p (pivL (solS rows goals p) rows.length p)[0]!) p := by
      rw [solS_succ]
      unfold stS
      rw [hlen]
    rw [hs]
    generalize hL : solS rows goals p = L at *
    have hm : (pivL L rows.length p)[0]! ∈ pivL L rows.length p := get_mem (List.length_pos_iff.mpr hne)
    obtain ⟨⟨ha1, ha2⟩, ha3⟩ := mem_pivL.mp hm
    refine js_seq (js_set (R := IsU (pivL L rows.length p)[0]!) (ps_set (i := 2) nd rfl (.inl rfl) (je_view (i := 4) rfl (fun v F F' h => h) (je_op (pe_ix ix_list (je_eq (R' := IsL IsU (pivL L rows.length p)) (je_m (jm_lc (own := [("spot", 6)]) (Ry := IsU) (fun s : Nat => !decide ((L[s]!)[p]! = 0)) (fun s : Nat => s) rfl nd (ji_range2 (a := p) (n := rows.length) (by omega) (by omega) (pi_range2 rfl Z.range (ja_cons (jv 5 (R := IsU p)) (ja_cons (jbB call_len Z.len boot_len (ja_cons (jv 0 (R := IsQM C rows)) ja_nil) rc_len) ja_nil)))) (blkOk_by (by kernel_rfl)) (by decide) (fun s H C' cl fp x => jg1 6 nd) (fun s H C' cl fp x hx => jts_one (jt_eq (jt_cmp (pt_cmpR op_ne (jprop psign (hr.mono (by decide)) (L[x]!)[p]! (je_op (pe_ix ix_list (je_op (pe_ix ix_list (jv 4 (R := IsQM C L)) (jv 6 (R := IsU x)) (fun _ _ => rfl)) (rop_ixB (by have := (gw_mem_ft.mp hx).2; omega))) (jv 5 (R := IsU p)) (fun _ _ => rfl)) (rop_ixB (by have hx2 := (gw_mem_ft.mp hx).2; rw [hrow _ (get_mem (by omega))]; omega))) rfl trivial rfl) jI (nomark _)) rop_neI) (by rw [q_sgn_0]))) (fun s H C' cl fp x hx _ => jv 6 (R := IsU x)) (line_of (m := 1000) (by rw [gw_ft_len]; omega)))) (by rw [List.map_id']; rfl)) jI (fun _ _ => rfl)) (rop_ixB (j := 0) (List.length_pos_iff.mpr hne)))))) ?_
    generalize hA : (pivL L rows.length p)[0]! = a at *
    refine js_seq (js_swap (K := K) (i := 4) (a := 5) (b := 2) (na := p) (nb := a) (xs := L) (Rx := IsL (IsQ C)) (ps_asg (pe_tup (pa_cons (pe_ix ix_list (pv 4) (pv 2) (fun _ _ => rfl)) (pa_cons (pe_ix ix_list (pv 4) (pv 5) (fun _ _ => rfl)) pa_nil))) (pg_tup rfl (pgs_cons (pg_sub (pv 4) (pv 5) set_list) (pgs_cons (pg_sub (pv 4) (pv 2) set_list) pgs_nil)))) rfl rfl rfl (by omega) (by omega)) ?_
    refine js_frz (i := 4) rfl ?_
    have eS : (L.set p L[a]!).set a L[p]! = swpR L p a := rfl
    rw [eS]
    have hlS : (swpR L p a).length = rows.length := by rw [swpR_len, hlen]
    have hrS : ∀ r ∈ swpR L p a, r.length = rows.length + goals.length := swpR_row (by omega) (by omega) hrow
    generalize swpR L p a = S at *
    have hpS : (S[p]!).length = rows.length + goals.length := hrS _ (get_mem (by omega))
    refine js_seq (jslc (i := 7) (Ry := IsQ C) (fun one : Rat => one / (S[p]!)[p]!) [("one", 10)] nd (ji_list (Rx := IsQ C) (xs := S[p]!) (pi_list (je_op (pe_ix ix_list (jv 4 (R := IsQM C S)) (jv 5 (R := IsU p)) (fun _ _ => rfl)) (rop_ixB (by omega))))) (fun s H C' cl fp x => jg1 10 nd) (fun s H C' cl fp x hx => jmeth mover (hr.mono (by decide)) (x, (S[p]!)[p]!) (jv 10 (R := IsQ C x)) (ja_cons (je_conv (je_op (pe_ix ix_list (je_op (pe_ix ix_list (jv 4 (R := IsQM C S)) (jv 5 (R := IsU p)) (fun _ _ => rfl)) (rop_ixB (by omega))) (jv 5 (R := IsU p)) (fun _ _ => rfl)) (rop_ixB (by omega))) isQ_nm) ja_nil) rfl (hf1 x hx)) (line_of (m := 1000) (by omega))) ?_
    refine js_frz (i := 7) rfl ?_
    have eH : (S[p]!).map (fun one : Rat => one / (S[p]!)[p]!) = hdR S p := rfl
    rw [eH]
    have hlH : (hdR S p).length = rows.length + goals.length := by unfold hdR; rw [List.length_map, hpS]
    refine js_seq (js_setM (i := 8) (Rm := LsOf (IsL (IsQ C)) []) (ps_set (i := 8) nd rfl (.inl rfl) (jm_ls [] (jm_lst (pe_lst ja_nil))))) ?_
    refine js_cons (N1 := fun G => ∃ t3 t6, G = [.fz (IsQM C rows), .fz (IsQM C goals), .fz (IsU a), t3, .fz (IsQM C S), .fz (IsU p), t6, .fz (IsL (IsQ C) (hdR S p)), .mt (LsOf (IsL (IsQ C)) ((enumN S).map (rowS (hdR S p) p))), .un, .un, .un]) (js_for PassesOwn.never rfl (ji_enumN (Rx := IsL (IsQ C)) (xs := S) (pi_enum rfl Z.enum (ja_cons (jv 4) ja_nil))) (fun x => jg2 6 3 nd) (fun i G => ∃ t3 t6, G = [.fz (IsQM C rows), .fz (IsQM C goals), .fz (IsU a), t3, .fz (IsQM C S), .fz (IsU p), t6, .fz (IsL (IsQ C) (hdR S p)), .mt (LsOf (IsL (IsQ C)) (((enumN S).take i).map (rowS (hdR S p) p))), .un, .un, .un]) ⟨_, _, rfl⟩ ?_ (fun G1 h => by rwa [List.take_length] at h)) ?_
    · rintro j q G1 hj ⟨t3, t6, rfl⟩
      have hqm := List.mem_of_getElem? (mem_enumN (List.mem_of_getElem? hj)).2
      have hql := hrS _ hqm
      refine js_one (js_N (js_append (i := 8) (R := IsL (IsQ C) (rowS (hdR S p) p q)) (Rm' := LsOf (IsL (IsQ C)) (((enumN S).take (j + 1)).map (rowS (hdR S p) p))) (ps_expr (pe_bm PySem.F.plainAttrs_list PySem.F.slot_list_append PySem.F.type_list_append mt_append (pv 8) (pa_cons (je_if (b1 := decide ((q.1 : Int) = (p : Int))) (jt_cmp (pt_cmpR op_eq (jv 6 (R := IsU q.1)) (jv 5 (R := IsU p)) (nomark _)) rop_eqI) (fun h => je_eq (jv 7 (R := IsL (IsQ C) (hdR S p))) ?_) (fun h => je_eq (je_m (jlc (Ry := IsQ C) (fun t : Rat × Rat => t.1 - (q.2[p]!) * t.2) [("one", 10), ("two", 11)] nd (ji_zip (Rx := IsQ C) (Ry := IsQ C) (xs := q.2) (ys := hdR S p) (pi_zip rfl Z.zip (ja_cons (jv 3 (R := IsL (IsQ C) q.2)) (ja_cons (jv 7 (R := IsL (IsQ C) (hdR S p))) ja_nil)))) (fun s H C' cl fp x => jg2 10 11 nd) (fun s H C' cl fp t ht => joQ (q := t.1) (r := (q.2[p]!) * t.2) osub (hr.mono (by decide)) (jv 10 (R := IsQ C t.1)) (joQ (q := q.2[p]!) (r := t.2) omul (hr.mono (by decide)) (je_op (pe_ix ix_list (jv 3 (R := IsL (IsQ C) q.2)) (jv 5 (R := IsU p)) (fun _ _ => rfl)) (rop_ixB (by omega))) (jv 11 (R := IsQ C t.2)) (hf2 _ hqm t ht).1) (hf2 _ hqm t ht).2) (line_of (m := 1000) (by rw [List.length_zip]; omega)))) ?_)) pa_nil))) rfl (fun vs v F a b => ?_) (fun vs F a => ?_)) ?_)
      · have h := of_decide_eq_true h
        unfold rowS
        rw [if_pos (by omega)]
      · have h := of_decide_eq_false h
        unfold rowS
        rw [if_neg (by omega)]
      · rw [map_take hj]
        exact (a.here.snoc b).up
      · rw [← a.len, List.length_map, List.length_take, enumN_len]
        exact line_of (m := 1000) (by omega)
      · rintro G' rfl
        exact ⟨_, _, rfl⟩
    · rintro _ ⟨t3, t6, rfl⟩
      refine js_one (js_N (js_move (i := 4) (j := 8) (by decide) (ps_set (i := 4) nd rfl (.inr rfl) (pv 8)) rfl) ?_)
      rintro G' rfl
      exact ⟨_, _, _, _, _, rfl⟩
  · rintro _ ⟨s2, s3, s5, s6, s7, rfl⟩
    refine js_frz (i := 4) rfl ?_
    have hlen := solS_len rows goals rows.length
    have hrow := hp.row rows.length (Nat.le_refl _)
    refine js_one (js_ret (je_m (jlc (Ry := IsL (IsQ C)) (fun c : Nat => (List.range rows.length).map fun s => ((solS rows goals rows.length)[s]!)[rows.length + c]!) [("at", 2)] nd (ji_rangeN (n := goals.length) (by omega) (pi_range1 rfl Z.range (ja_cons (jbB call_len Z.len boot_len (ja_cons (jv 1 (R := IsQM C goals)) ja_nil) rc_len) ja_nil))) (fun s H C' cl fp x => jg1 2 nd) (fun s H C' cl fp c hc => je_m (jlc (Ry := IsQ C) (fun s : Nat => ((solS rows goals rows.length)[s]!)[rows.length + c]!) [("spot", 6)] nd (ji_rangeN (n := rows.length) (by omega) (pi_range1 rfl Z.range (ja_cons (jbB call_len Z.len boot_len (ja_cons (jv 0 (R := IsQM C rows)) ja_nil) rc_len) ja_nil))) (fun s H C' cl fp x => jg1 6 nd) (fun s H C' cl fp x hx => je_op (pe_ix ix_list (je_op (pe_ix ix_list (jv 4 (R := IsQM C (solS rows goals rows.length))) (jv 6 (R := IsU x)) (fun _ _ => rfl)) (rop_ixB (by have := List.mem_range.mp hx; omega))) (je_eq (R' := IsU (rows.length + c)) (je_op (pe_op op_add (jbB call_len Z.len boot_len (ja_cons (jv 0 (R := IsQM C rows)) ja_nil) rc_len) (jv 2 (R := IsU c))) rop_add) rfl) (fun _ _ => rfl)) (rop_ixB (by have h1 := List.mem_range.mp hx; have h2 := List.mem_range.mp hc; rw [hrow _ (get_mem (by omega))]; omega))) (line_of (m := 1000) (by rw [List.length_range]; omega)))) (line_of (m := 1000) (by rw [List.length_range]; omega)))))
end
end Gw
set_option maxHeartbeats 4000000
namespace Gw
open PySem PySem.Spec PyProof.Rows L2
/-! ### errors of functions -/
def midR (sh f : List Rat) : Rat := sumR ((sh.zip f).map fun q => q.1 * q.2)
def goalF (sh f : List Rat) : List Rat := f.map fun one => one - midR sh f
def i01R (a t : Nat) : Int := if a = t then 1 else 0
def lessM (rows : List (List Rat)) : List (List Rat) := (List.range (rows.length - 1)).map fun a => (List.range (rows.length - 1)).map fun t => (i01R a t : Rat) - (rows[a]!)[t]!
def nxR (row ws : List Rat) : Rat := sumR ((row.zip ws).map fun q => q.1 * q.2)
def sqR (row ws : List Rat) : Rat := sumR ((row.zip ws).map fun q => q.1 * q.2 * q.2)
def erT (ws : List Rat) (t : Rat) (q : Rat × List Rat) : Rat := t + q.1 * (sqR q.2 ws - nxR q.2 ws * nxR q.2 ws)
def erOf (sh : List Rat) (rows : List (List Rat)) (ah : List Rat) : Rat := (sh.zip rows).foldl (erT (ah ++ [((0 : Int) : Rat)])) ((0 : Int) : Rat)
def ersR (rows : List (List Rat)) (sh : List Rat) (fs : List (List Rat)) : List Rat := (solR (lessM rows) (fs.map (goalF sh))).map (erOf sh rows)
structure ErrP (rows : List (List Rat)) (sh : List Rat) (fs : List (List Rat)) : Prop where
  n2 : 2 ≤ rows.length
  n : rows.length ≤ 20
  rr : ∀ r ∈ rows, r.length = rows.length
  sl : sh.length = rows.length
  fn : fs.length ≤ 20
  fl : ∀ f ∈ fs, f.length = rows.length
  f1 : ∀ f ∈ fs, ∀ q ∈ sh.zip f, Fits q.1 q.2
  f2 : ∀ f ∈ fs, FitsL 0 ((sh.zip f).map fun q => q.1 * q.2)
  f3 : ∀ f ∈ fs, ∀ one ∈ f, Fits one (midR sh f)
  f4 : ∀ r ∈ rows, ∀ x ∈ r, ∀ i : Int, i = 0 ∨ i = 1 → Fits x (i : Rat)
  sv : SlvP (lessM rows) (fs.map (goalF sh))
  al : ∀ ah ∈ solR (lessM rows) (fs.map (goalF sh)), ah.length ≤ 20
  e1 : ∀ ah ∈ solR (lessM rows) (fs.map (goalF sh)), ∀ r ∈ rows, ∀ q ∈ r.zip (ah ++ [((0 : Int) : Rat)]), Fits q.1 q.2 ∧ Fits (q.1 * q.2) q.2
  e2 : ∀ ah ∈ solR (lessM rows) (fs.map (goalF sh)), ∀ r ∈ rows, FitsL 0 ((r.zip (ah ++ [((0 : Int) : Rat)])).map fun q => q.1 * q.2)
  e4 : ∀ ah ∈ solR (lessM rows) (fs.map (goalF sh)), ∀ r ∈ rows, FitsL 0 ((r.zip (ah ++ [((0 : Int) : Rat)])).map fun q => q.1 * q.2 * q.2)
  e5 : ∀ ah ∈ solR (lessM rows) (fs.map (goalF sh)), ∀ r ∈ rows, Fits (nxR r (ah ++ [((0 : Int) : Rat)])) (nxR r (ah ++ [((0 : Int) : Rat)]))
  e6 : ∀ ah ∈ solR (lessM rows) (fs.map (goalF sh)), ∀ r ∈ rows, Fits (sqR r (ah ++ [((0 : Int) : Rat)])) (nxR r (ah ++ [((0 : Int) : Rat)]) * nxR r (ah ++ [((0 : Int) : Rat)]))
  e7 : ∀ ah ∈ solR (lessM rows) (fs.map (goalF sh)), ∀ q ∈ sh.zip rows, Fits q.1 (sqR q.2 (ah ++ [((0 : Int) : Rat)]) - nxR q.2 (ah ++ [((0 : Int) : Rat)]) * nxR q.2 (ah ++ [((0 : Int) : Rat)]))
  e8 : ∀ ah ∈ solR (lessM rows) (fs.map (goalF sh)), ∀ (k : Nat) (q : Rat × List Rat), (sh.zip rows)[k]? = some q → Fits (((sh.zip rows).take k).foldl (erT (ah ++ [((0 : Int) : Rat)])) ((0 : Int) : Rat)) (q.1 * (sqR q.2 (ah ++ [((0 : Int) : Rat)]) - nxR q.2 (ah ++ [((0 : Int) : Rat)]) * nxR q.2 (ah ++ [((0 : Int) : Rat)])))
section
variable {P : Program} {w : World} {K : PySem.W.Frag} {mg : Str → Option Value} {base : Heap} {C : Addr}
abbrev sp__law_errors (C : Addr) : Sp := Pr (ι := List (List Rat) × List Rat × List (List Rat)) (fun w => [IsQM C w.1, IsL (IsQ C) w.2.1, IsQM C w.2.2]) (fun w => ErrP w.1 w.2.1 w.2.2) (fun w => IsL (IsQ C) (ersR w.1 w.2.1 w.2.2))
abbrev Kn__law_errors (P : Program) (w : World) (K : PySem.W.Frag) (mg : Str → Option Value) (base : Heap) (C : Addr) : Prop := Kn P w K mg base "_law_errors" 13 ["rows", "shares", "functions"] (sp__law_errors C)
theorem ok__law_errors (Z : Glo K mg C) (mk : Mkr P w K mg base C 2) (oadd : Opr P w K mg base C .Add 6 (fun w => Fits w.1 w.2) (· + ·)) (osub : Opr P w K mg base C .Sub 6 (fun w => Fits w.1 w.2) (· - ·)) (orsub : OprR P w K mg base C .Sub 6 (fun w => Fits w.1 w.2) (fun q r => r - q)) (omul : Opr P w K mg base C .Mult 6 (fun w => Fits w.1 w.2) (· * ·)) (ctotal : CmK P w K mg base C "total" 12 (sp_Rtotal C)) (k__law_solved : Kn__law_solved P w K mg base C) {f : Addr} {fd : FuncData} (Fd : FnP K "_law_errors" st__law_errors f fd) : FnOk P w K mg base CX0 13 f fd ["rows", "shares", "functions"] (sp__law_errors C) := by
  refine fn_pr Fd sc__law_errors (fun u => by first | rfl | (cases u <;> rfl)) (fun _ => False) (fun _ _ h => h.elim) (fun X u E hX hp hE => ?_)
  obtain ⟨cdv, A, outer, s, H, E', rfl, hr⟩ := hX
  refine PSs.nox ?_
  have nd := (sc__law_errors).nd
  replace hr : Room 12 (cxOf CX0 P w K mg base N__law_errors "_law_errors" (defScope st__law_errors) f cdv A outer s H E').nox.A := hr
  obtain ⟨rows, sh, fs⟩ := u
  have hp : ErrP rows sh fs := hp
  have hn := hp.n
  have hn2 := hp.n2
  have hsl := hp.sl
  have hfn := hp.fn
  refine js_seq (js_asgFM (i := 3) (j := 4) (Ra := IsU rows.length) (Rm := LsOf (IsL (IsQ C)) []) (by decide) (ps_asg (pe_tup (pa_cons (jbB call_len Z.len boot_len (ja_cons (jv 0 (R := IsQM C rows)) ja_nil) rc_len) (pa_cons (jm_ls [] (jm_lst (pe_lst ja_nil))) pa_nil))) (pg_tup rfl (pgs_cons (gN 3 nd) (pgs_cons (gN 4 nd) pgs_nil))))) ?_
  refine js_cons (N1 := fun G => ∃ s5 s7, G = [.fz (IsQM C rows), .fz (IsL (IsQ C) sh), .fz (IsQM C fs), .fz (IsU rows.length), .mt (LsOf (IsL (IsQ C)) (fs.map (goalF sh))), s5, .un, s7, .un, .un, .un, .un, .un, .un, .un, .un, .un, .un, .un, .un, .un]) (js_for PassesOwn.never rfl (ji_list (Rx := IsL (IsQ C)) (xs := fs) (pi_list (jv 2))) (fun x => jg1 5 nd) (fun i G => ∃ s5 s7, G = [.fz (IsQM C rows), .fz (IsL (IsQ C) sh), .fz (IsQM C fs), .fz (IsU rows.length), .mt (LsOf (IsL (IsQ C)) ((fs.take i).map (goalF sh))), s5, .un, s7, .un, .un, .un, .un, .un, .un, .un, .un, .un, .un, .un, .un, .un]) ⟨_, _, rfl⟩ ?_ (fun G1 h => by rwa [List.take_length] at h)) ?_
  · rintro i f G1 hi ⟨s5, s7, rfl⟩
    have hfm := List.mem_of_getElem? hi
    have hfl := hp.fl f hfm
    refine js_seq (js_set (R := IsQ C (midR sh f)) (ps_set (i := 7) nd rfl (.inr rfl) (jcm ctotal (hr.mono (by decide)) ((sh.zip f).map fun q => q.1 * q.2) rfl Z.rat (ja_cons (je_m (jlc (Ry := IsQ C) (fun q : Rat × Rat => q.1 * q.2) [("one", 19), ("share", 6)] nd (ji_zip (Rx := IsQ C) (Ry := IsQ C) (xs := sh) (ys := f) (pi_zip rfl Z.zip (ja_cons (jv 1) (ja_cons (jv 5 (R := IsL (IsQ C) f)) ja_nil)))) (fun s H C' cl fp x => jg2 6 19 nd) (fun s H C' cl fp q hq => joQ (q := q.1) (r := q.2) omul (hr.mono (by decide)) (jv 6 (R := IsQ C q.1)) (jv 19 (R := IsQ C q.2)) (hp.f1 f hfm q hq)) (line_of (m := 1000) (by rw [List.length_zip]; omega)))) ja_nil) rfl ⟨hp.f2 f hfm, by rw [List.length_map, List.length_zip]; omega⟩))) ?_
    refine js_one (js_N (js_append (i := 4) (R := IsL (IsQ C) (goalF sh f)) (Rm' := LsOf (IsL (IsQ C)) ((fs.take (i + 1)).map (goalF sh))) (ps_expr (pe_bm PySem.F.plainAttrs_list PySem.F.slot_list_append PySem.F.type_list_append mt_append (pv 4) (pa_cons (je_m (jlc (Ry := IsQ C) (fun one : Rat => one - midR sh f) [("one", 19)] nd (ji_list (Rx := IsQ C) (xs := f) (pi_list (jv 5 (R := IsL (IsQ C) f)))) (fun s H C' cl fp x => jg1 19 nd) (fun s H C' cl fp x hx => joQ (q := x) (r := midR sh f) osub (hr.mono (by decide)) (jv 19 (R := IsQ C x)) (jv 7 (R := IsQ C (midR sh f))) (hp.f3 f hfm x hx)) (line_of (m := 1000) (by omega)))) pa_nil))) rfl (fun vs v F a b => ?_) (fun vs F a => ?_)) ?_)
    · rw [map_take hi]
      exact (a.here.snoc b).up
    · rw [← a.len, List.length_map, List.length_take]
      exact line_of (m := 1000) (by omega)
    · rintro G' rfl
      exact ⟨_, _, rfl⟩
  rintro _ ⟨s5, s7, rfl⟩
  refine js_frz (i := 4) rfl ?_
  refine js_seq (jslc (i := 8) (Ry := IsL (IsQ C)) (fun a : Nat => (List.range (rows.length - 1)).map fun t => (i01R a t : Rat) - (rows[a]!)[t]!) [("at", 16)] nd (ji_rangeN (n := rows.length - 1) (by omega) (pi_range1 rfl Z.range (ja_cons (je_eq (je_op (pe_op op_sub (jv 3 (R := IsU rows.length)) jI) rop_sub) (congrArg IsI (by omega))) ja_nil))) (fun s H C' cl fp x => jg1 16 nd) (fun s H C' cl fp a ha => je_m (jlc (Ry := IsQ C) (fun t : Nat => (i01R a t : Rat) - (rows[a]!)[t]!) [("to", 20)] nd (ji_rangeN (n := rows.length - 1) (by omega) (pi_range1 rfl Z.range (ja_cons (je_eq (je_op (pe_op op_sub (jv 3 (R := IsU rows.length)) jI) rop_sub) (congrArg IsI (by omega))) ja_nil))) (fun s H C' cl fp x => jg1 20 nd) (fun s H C' cl fp t ht => ?_) (line_of (m := 1000) (by rw [List.length_range]; omega)))) (line_of (m := 1000) (by rw [List.length_range]; omega))) ?_
  · have h1 := List.mem_range.mp ha
    have h2 := List.mem_range.mp ht
    have hra : rows[a]! ∈ rows := get_mem (by omega)
    have hrl := hp.rr _ hra
    exact joIQ_sub (i := i01R a t) orsub (hr.mono (by decide)) (je_if (R := IsI (i01R a t)) (b1 := decide ((a : Int) = (t : Int))) (jt_cmp (pt_cmpR op_eq (jv 16 (R := IsU a)) (jv 20 (R := IsU t)) (nomark _)) rop_eqI) (fun h => je_eq (jI (i := 1)) (by have h := of_decide_eq_true h; unfold i01R; rw [if_pos (by omega)])) (fun h => je_eq (jI (i := 0)) (by have h := of_decide_eq_false h; unfold i01R; rw [if_neg (by omega)]))) (je_op (pe_ix ix_list (je_op (pe_ix ix_list (jv 0 (R := IsQM C rows)) (jv 16 (R := IsU a)) (fun _ _ => rfl)) (rop_ixB (by omega))) (jv 20 (R := IsU t)) (fun _ _ => rfl)) (rop_ixB (by omega))) (hp.f4 _ hra _ (get_mem (by omega)) _ (by unfold i01R; split <;> simp))
  refine js_frz (i := 8) rfl ?_
  have eL : ((List.range (rows.length - 1)).map fun a : Nat => (List.range (rows.length - 1)).map fun t => (i01R a t : Rat) - (rows[a]!)[t]!) = lessM rows := rfl
  rw [eL]
  refine js_seq (js_setM (i := 9) (Rm := LsOf (IsQ C) []) (ps_set (i := 9) nd rfl (.inl rfl) (jm_ls [] (jm_lst (pe_lst ja_nil))))) ?_
  have hsv := hp.sv
  have hal := hp.al
  have he1 := hp.e1
  have he2 := hp.e2
  have he4 := hp.e4
  have he5 := hp.e5
  have he6 := hp.e6
  have he7 := hp.e7
  have he8 := hp.e8
  have hsn : (solR (lessM rows) (fs.map (goalF sh))).length ≤ 20 := by
    unfold solR
    rw [List.length_map, List.length_range, List.length_map]
    exact hfn
  show PSs _ _ (tS E _ (Rn (IsL (IsQ C) ((solR (lessM rows) (fs.map (goalF sh))).map (erOf sh rows)))) _)
  have kS := @k__law_solved
  refine js_cons (N1 := fun G => ∃ s10 s11 s12 s13 s14 s15 s6, G = [.fz (IsQM C rows), .fz (IsL (IsQ C) sh), .fz (IsQM C fs), .fz (IsU rows.length), .fz (IsQM C (fs.map (goalF sh))), s5, s6, s7, .fz (IsQM C (lessM rows)), .mt (LsOf (IsQ C) ((solR (lessM rows) (fs.map (goalF sh))).map (erOf sh rows))), s10, s11, s12, s13, s14, s15, .un, .un, .un, .un, .un]) (js_for PassesOwn.never rfl (ji_list (Rx := IsL (IsQ C)) (xs := solR (lessM rows) (fs.map (goalF sh))) (pi_list (je_if (b1 := true) (jt_eq (jt_cmp (pt_cmpR op_gt (jv 3 (R := IsU rows.length)) jI (nomark _)) rop_gt) (decide_eq_true (by omega))) (fun _ => jc k__law_solved (hr.mono (by decide)) (lessM rows, fs.map (goalF sh)) (ja_cons (jv 8) (ja_cons (jv 4) ja_nil)) hsv) (fun h => nomatch h)))) (fun x => jg1 10 nd) (fun i G => ∃ s10 s11 s12 s13 s14 s15 s6, G = [.fz (IsQM C rows), .fz (IsL (IsQ C) sh), .fz (IsQM C fs), .fz (IsU rows.length), .fz (IsQM C (fs.map (goalF sh))), s5, s6, s7, .fz (IsQM C (lessM rows)), .mt (LsOf (IsQ C) (((solR (lessM rows) (fs.map (goalF sh))).take i).map (erOf sh rows))), s10, s11, s12, s13, s14, s15, .un, .un, .un, .un, .un]) ⟨_, _, _, _, _, _, _, rfl⟩ ?_ (fun G1 h => by rwa [List.take_length] at h)) ?_
  · rintro i ah G1 hi ⟨s10, s11, s12, s13, s14, s15, s6, rfl⟩
    have ham := List.mem_of_getElem? hi
    have hal := hal ah ham
    have he1 := he1 ah ham
    have he2 := he2 ah ham
    have he4 := he4 ah ham
    have he5 := he5 ah ham
    have he6 := he6 ah ham
    have he7 := he7 ah ham
    have he8 := he8 ah ham
    have hwl : (ah ++ [((0 : Int) : Rat)]).length ≤ 21 := by rw [List.length_append, List.length_singleton]; omega
    have eF : ∀ k, ((sh.zip rows).take k).foldl (erT (ah ++ [((0 : Int) : Rat)])) ((0 : Int) : Rat) = ((sh.zip rows).take k).foldl (erT (ah ++ [((0 : Int) : Rat)])) ((0 : Int) : Rat) := fun k => rfl
    refine js_seq (js_parMF (i := 11) (j := 12) (Rm := LsOf (IsQ C) (ah ++ [((0 : Int) : Rat)])) (Rb := IsQ C ((0 : Int) : Rat)) (by decide) (ps_par (i := 11) (j := 12) rfl nd rfl rfl (by decide) rfl rfl (pa_cons (jm_op (pe_op op_cat (jv 10 (R := IsL (IsQ C) ah)) (je_m (jm_ls [((0 : Int) : Rat)] (jm_lst (pe_lst (ja_cons (jmk1 mk (hr.mono (by decide)) (ja_cons jI ja_nil)) ja_nil)))))) (rop_cat (by rw [List.length_singleton]; omega))) (pa_cons (jmk1 mk (hr.mono (by decide)) (ja_cons jI ja_nil)) pa_nil)) rfl)) ?_
    refine js_frz (i := 11) rfl ?_
    have eE : erOf sh rows ah = (sh.zip rows).foldl (erT (ah ++ [((0 : Int) : Rat)])) ((0 : Int) : Rat) := rfl
    generalize hw : ah ++ [((0 : Int) : Rat)] = ws at *
    refine js_cons (N1 := fun G => ∃ s13 s14 s15 s6, G = [.fz (IsQM C rows), .fz (IsL (IsQ C) sh), .fz (IsQM C fs), .fz (IsU rows.length), .fz (IsQM C (fs.map (goalF sh))), s5, s6, s7, .fz (IsQM C (lessM rows)), .mt (LsOf (IsQ C) (((solR (lessM rows) (fs.map (goalF sh))).take i).map (erOf sh rows))), .fz (IsL (IsQ C) ah), .fz (IsL (IsQ C) ws), .fz (IsQ C ((sh.zip rows).foldl (erT ws) ((0 : Int) : Rat))), s13, s14, s15, .un, .un, .un, .un, .un]) (js_for PassesOwn.never rfl (ji_zip (Rx := IsQ C) (Ry := IsL (IsQ C)) (xs := sh) (ys := rows) (pi_zip rfl Z.zip (ja_cons (jv 1) (ja_cons (jv 0) ja_nil)))) (fun x => jg2 6 13 nd) (fun k G => ∃ s13 s14 s15 s6, G = [.fz (IsQM C rows), .fz (IsL (IsQ C) sh), .fz (IsQM C fs), .fz (IsU rows.length), .fz (IsQM C (fs.map (goalF sh))), s5, s6, s7, .fz (IsQM C (lessM rows)), .mt (LsOf (IsQ C) (((solR (lessM rows) (fs.map (goalF sh))).take i).map (erOf sh rows))), .fz (IsL (IsQ C) ah), .fz (IsL (IsQ C) ws), .fz (IsQ C (((sh.zip rows).take k).foldl (erT ws) ((0 : Int) : Rat))), s13, s14, s15, .un, .un, .un, .un, .un]) ⟨_, _, _, _, rfl⟩ ?_ (fun G1 h => by rwa [List.take_length] at h)) ?_
    · rintro k q G1 hk ⟨t13, t14, t15, t6, rfl⟩
      have hqm := List.mem_of_getElem? hk
      have hrm : q.2 ∈ rows := (List.of_mem_zip (show (q.1, q.2) ∈ sh.zip rows from hqm)).2
      have hrl := hp.rr _ hrm
      refine js_seq (js_set (R := IsQ C (nxR q.2 ws)) (ps_set (i := 14) nd rfl (.inl rfl) (jcm ctotal (hr.mono (by decide)) ((q.2.zip ws).map fun q => q.1 * q.2) rfl Z.rat (ja_cons (je_m (jlc (Ry := IsQ C) (fun q : Rat × Rat => q.1 * q.2) [("chance", 17), ("one", 19)] nd (ji_zip (Rx := IsQ C) (Ry := IsQ C) (xs := q.2) (ys := ws) (pi_zip rfl Z.zip (ja_cons (jv 13 (R := IsL (IsQ C) q.2)) (ja_cons (jv 11 (R := IsL (IsQ C) ws)) ja_nil)))) (fun s H C' cl fp x => jg2 17 19 nd) (fun s H C' cl fp z hz => joQ (q := z.1) (r := z.2) omul (hr.mono (by decide)) (jv 17 (R := IsQ C z.1)) (jv 19 (R := IsQ C z.2)) (he1 _ hrm z hz).1) (line_of (m := 1000) (by rw [List.length_zip]; omega)))) ja_nil) rfl ⟨he2 _ hrm, by rw [List.length_map, List.length_zip]; omega⟩))) ?_
      refine js_seq (js_set (R := IsQ C (sqR q.2 ws)) (ps_set (i := 15) nd rfl (.inl rfl) (jcm ctotal (hr.mono (by decide)) ((q.2.zip ws).map fun q => q.1 * q.2 * q.2) rfl Z.rat (ja_cons (je_m (jlc (Ry := IsQ C) (fun q : Rat × Rat => q.1 * q.2 * q.2) [("chance", 17), ("one", 19)] nd (ji_zip (Rx := IsQ C) (Ry := IsQ C) (xs := q.2) (ys := ws) (pi_zip rfl Z.zip (ja_cons (jv 13 (R := IsL (IsQ C) q.2)) (ja_cons (jv 11 (R := IsL (IsQ C) ws)) ja_nil)))) (fun s H C' cl fp x => jg2 17 19 nd) (fun s H C' cl fp z hz => joQ (q := z.1 * z.2) (r := z.2) omul (hr.mono (by decide)) (joQ (q := z.1) (r := z.2) omul (hr.mono (by decide)) (jv 17 (R := IsQ C z.1)) (jv 19 (R := IsQ C z.2)) (he1 _ hrm z hz).1) (jv 19 (R := IsQ C z.2)) (he1 _ hrm z hz).2) (line_of (m := 1000) (by rw [List.length_zip]; omega)))) ja_nil) rfl ⟨he4 _ hrm, by rw [List.length_map, List.length_zip]; omega⟩))) ?_
      refine js_one (js_N (js_set (R := IsQ C (((sh.zip rows).take (k + 1)).foldl (erT ws) ((0 : Int) : Rat))) (ps_set (i := 12) nd rfl (.inl rfl) (je_eq (joQ oadd (hr.mono (by decide)) (jv 12 (R := IsQ C (((sh.zip rows).take k).foldl (erT ws) ((0 : Int) : Rat)))) (joQ (q := q.1) (r := sqR q.2 ws - nxR q.2 ws * nxR q.2 ws) omul (hr.mono (by decide)) (jv 6 (R := IsQ C q.1)) (joQ (q := sqR q.2 ws) (r := nxR q.2 ws * nxR q.2 ws) osub (hr.mono (by decide)) (jv 15 (R := IsQ C (sqR q.2 ws))) (joQ (q := nxR q.2 ws) (r := nxR q.2 ws) omul (hr.mono (by decide)) (jv 14 (R := IsQ C (nxR q.2 ws))) (jv 14 (R := IsQ C (nxR q.2 ws))) (he5 _ hrm)) (he6 _ hrm)) (he7 _ hqm)) (he8 k q hk)) (by rw [foldl_take hk]; rfl)))) ?_)
      rintro G' rfl
      exact ⟨_, _, _, _, rfl⟩
    · rintro _ ⟨t13, t14, t15, t6, rfl⟩
      refine js_one (js_N (js_append (i := 9) (R := IsQ C ((sh.zip rows).foldl (erT ws) ((0 : Int) : Rat))) (Rm' := LsOf (IsQ C) (((solR (lessM rows) (fs.map (goalF sh))).take (i + 1)).map (erOf sh rows))) (ps_expr (pe_bm PySem.F.plainAttrs_list PySem.F.slot_list_append PySem.F.type_list_append mt_append (pv 9) (pa_cons (jv 12 (R := IsQ C ((sh.zip rows).foldl (erT ws) ((0 : Int) : Rat)))) pa_nil))) rfl (fun vs v F a b => ?_) (fun vs F a => ?_)) ?_)
      · rw [map_take hi, eE]
        exact (a.here.snoc b).up
      · rw [← a.len, List.length_map, List.length_take]
        exact line_of (m := 1000) (by omega)
      · rintro G' rfl
        exact ⟨_, _, _, _, _, _, _, rfl⟩
  · rintro _ ⟨s10, s11, s12, s13, s14, s15, s6, rfl⟩
    exact js_one (js_retV (pv 9) rfl)
end
end Gw
set_option maxHeartbeats 4000000
namespace Gw
open PySem PySem.Spec PyProof.Rows L2
def wQ (ws : List Nat) : List Rat := ws.map fun x => (((x : Nat) : Int) : Rat)
def gQ (gs : List RwG) : List (List (Rat × Rat)) := gs.map fun g => g.map handed
structure TldP (rows : List (List Rat)) (ws : List Nat) (gs : List RwG) : Prop where
  g : GtP rows (wQ ws) (gQ gs)
  gn : gs.length ≤ 100
  gl : ∀ g ∈ gs, g.length ≤ 10
abbrev CnR (rows : List (List Rat)) (ws : List Nat) (gs : List RwG) : Prop := Conn (flowsR rows (wQ ws) (standR (gQ gs)))
section
variable {P : Program} {w : World} {K : PySem.W.Frag} {mg : Str → Option Value} {base : Heap} {C NW : Addr}
theorem ls_imp {α : Type} {R R' : α → V → Hp → Prop} {xs : List α} {vs : List V} {F : Hp} (h : LsOf R xs vs F) (k : ∀ x v F, R x v F → R' x v F) : LsOf R' xs vs F := Paired.mapP h fun x v u => u.imp fun F q => k x v F q
theorem ls_map {α β : Type} {R : α → V → Hp → Prop} {R' : β → V → Hp → Prop} {g : α → β} {xs : List α} {vs : List V} {F : Hp} (h : LsOf R xs vs F) (k : ∀ x v F, R x v F → R' (g x) v F) : LsOf R' (xs.map g) vs F := by
  unfold LsOf at h ⊢
  induction h with
  | nil => exact .nil
  | cons r t ih => exact .cons (r.imp fun F q => k _ _ F q) ih
theorem lst_to {R R' : List V → Hp → Prop} (k : ∀ vs F, R vs F → R' vs F) : ∀ v F, LstOf R v F → LstOf R' v F := fun v F ⟨a, vs, e, h, u⟩ => ⟨a, vs, e, h, u.imp fun F q => k vs F q⟩
theorem tup_to {R R' : List V → Hp → Prop} (k : ∀ vs F, R vs F → R' vs F) : ∀ v F, TupOf R v F → TupOf R' v F := fun v F ⟨a, vs, e, h, u⟩ => ⟨a, vs, e, h, u.imp fun F q => k vs F q⟩
theorem ql_sn {xs : List Rat} : ∀ v F, IsL (IsQ C) xs v F → IsSN C xs v F := fun v F h => .inl (lst_to (fun vs F q => ls_imp q fun x v F r => .inl r) v F h)
theorem qt_sn {xs : List Rat} : ∀ v F, IsTs (IsQ C) xs v F → IsSN C xs v F := fun v F h => .inr (tup_to (fun vs F q => ls_imp q fun x v F r => .inl r) v F h)
theorem qm_snm {M : List (List Rat)} : ∀ v F, IsQM C M v F → IsSNM C M v F := fun v F h => .inl (lst_to (fun vs F q => ls_imp q fun x v F r => ql_sn v F r) v F h)
theorem qtt_snm {M : List (List Rat)} : ∀ v F, IsTs (IsTs (IsQ C)) M v F → IsSNM C M v F := fun v F h => .inr (tup_to (fun vs F q => ls_imp q fun x v F r => qt_sn v F r) v F h)
theorem ul_sn {ws : List Nat} : ∀ v F, IsL IsU ws v F → IsSN C (wQ ws) v F := fun v F h => .inl (lst_to (fun vs F q => ls_map q fun x v F r => .inr ⟨(x : Int), rfl, r⟩) v F h)
theorem nt_sn {xs : List Rat} : ∀ v F, IsTs (IsNm C) xs v F → IsSN C xs v F := fun v F h => .inr h
theorem pq_pn {p : Rat × Rat} : ∀ v F, IsPq C p v F → IsPn C p v F := isTp_imp (.cons (fun v F h => .inl h) (.cons (fun v F h => .inl h) .nil))
theorem gq_sg {g : List (Rat × Rat)} : ∀ v F, IsGQ C g v F → IsSG C g v F := fun v F h => .inl (lst_to (fun vs F q => ls_imp q fun x v F r => pq_pn v F r) v F h)
theorem gqt_sg {g : List (Rat × Rat)} : ∀ v F, IsTs (IsPq C) g v F → IsSG C g v F := fun v F h => .inr (tup_to (fun vs F q => ls_imp q fun x v F r => pq_pn v F r) v F h)
theorem gl_sg {gs : List (List (Rat × Rat))} : ∀ v F, IsL (IsGQ C) gs v F → IsSq (IsSG C) gs v F := fun v F h => .inl (lst_to (fun vs F q => ls_imp q fun x v F r => gq_sg v F r) v F h)
theorem args3k {R0 R1 R2 : V → Hp → Prop} {ws : List V} {F : Hp} (a : Args [R0, R2, R1] ws F) : Args [R0, R1, R2] [ws.getD 0 .non, ws.getD 2 .non, ws.getD 1 .non] F := by
  cases a with
  | cons r t => cases t with
    | cons r2 t2 => cases t2 with
      | cons r3 t3 =>
        cases t3
        exact .cons r (.cons r3 (.cons r2 .nil))
def TldR (C : Addr) (rows : List (List Rat)) (ws : List Nat) (gs : List RwG) (v : V) (F : Hp) : Prop := (CnR rows ws gs → IsQM C (guessedR rows (wQ ws) (gQ gs)) v F) ∧ (¬ CnR rows ws gs → IsN v F)
abbrev KnGt (P : Program) (w : World) (K : PySem.W.Frag) (mg : Str → Option Value) (base : Heap) (C NW : Addr) : Prop := KnX NW P w K mg base "guessed_table" 10 ["proposal", "weights", "guesses"] (sp_guessed_table NW C) ["proposal", "guesses", "weights"] (fun _ ws => [ws.getD 0 .non, ws.getD 2 .non, ws.getD 1 .non])
abbrev sp__law_told (C : Addr) : Sp := Pr (ι := List (List Rat) × List Nat × List RwG) (fun w => [IsQM C w.1, IsL IsU w.2.1, IsL (IsRw C) w.2.2]) (fun w => TldP w.1 w.2.1 w.2.2) (fun w => TldR C w.1 w.2.1 w.2.2)
abbrev Kn__law_told (P : Program) (w : World) (K : PySem.W.Frag) (mg : Str → Option Value) (base : Heap) (C : Addr) : Prop := Kn P w K mg base "_law_told" 12 ["rows", "weights", "guesses"] (sp__law_told C)
theorem ok__law_told (Z : Glo K mg C) (T : NwF K mg NW) (kgt : KnGt P w K mg base C NW) (k__law_handed : Kn__law_handed P w K mg base C) {f : Addr} {fd : FuncData} (Fd : FnP K "_law_told" st__law_told f fd) : FnOk P w K mg base CX0 12 f fd ["rows", "weights", "guesses"] (sp__law_told C) := by
  refine fn_pr Fd sc__law_told (fun u => by first | rfl | (cases u <;> rfl)) (fun _ => False) (fun _ _ h => h.elim) (fun X u E hX hp hE => ?_)
  obtain ⟨cdv, A, outer, s, H, E', rfl, hr⟩ := hX
  refine PSs.nox ?_
  have nd := (sc__law_told).nd
  replace hr : Room 11 (cxOf CX0 P w K mg base N__law_told "_law_told" (defScope st__law_told) f cdv A outer s H E').nox.A := hr
  obtain ⟨rows, ws, gs⟩ := u
  have hp : TldP rows ws gs := hp
  have hgn := hp.gn
  refine js_seq (js_set (R := IsN) (ps_set (i := 3) nd rfl (.inl rfl) jNon)) ?_
  refine js_cons (N1 := fun G => ∃ R : V → Hp → Prop, (∀ v F, R v F → TldR C rows ws gs v F) ∧ G = [.fz (IsQM C rows), .fz (IsL IsU ws), .fz (IsL (IsRw C) gs), .fz R, .un]) (js_try_call (i := 3) (R2 := [IsSNM C rows, IsSq (IsSG C) (gQ gs), IsSN C (wQ ws)]) (rows, wQ ws, gQ gs) T kgt rfl rfl (hr.mono (by decide)) rfl nd rfl (fun pn xe hpa => jk_cons (je_conv (jv 0 (R := IsQM C rows)) qm_snm) (jk_cons (je_conv (je_m (jlc (Ry := IsGQ C) (fun g : RwG => g.map handed) [("guess", 4)] nd (ji_list (Rx := IsRw C) (xs := gs) (pi_list (jv 2))) (fun s H C' cl fp x => jg1 4 nd) (fun s H C' cl fp g hg => jc k__law_handed (hr.mono (by decide)) g (ja_cons (jv 4 (R := IsRw C g)) ja_nil) (hp.gl g hg)) (line_of (m := 1000) (by omega)))) gl_sg) (jk_cons (je_conv (jv 1 (R := IsL IsU ws)) ul_sn) jk_nil))) rfl (fun ws F a => args3k a) hp.g (fun hn a oe pn => ?_) (fun h => ⟨_, ?_, rfl⟩)) ?_
  · refine js_one (js_N (js_set (R := IsN) (ps_set (i := 3) nd rfl (.inl rfl) jNon)) ?_)
    rintro G' rfl
    exact ⟨IsN, fun v F h => ⟨fun c => absurd c hn, fun _ => h⟩, rfl⟩
  · exact fun v F h' => ⟨fun _ => h', fun c => absurd h c⟩
  · rintro _ ⟨R, hR, rfl⟩
    exact js_one (js_ret (je_conv (jv 3 (R := R)) hR))
end
end Gw
set_option maxHeartbeats 4000000
/-! == and != of lists and tuples with items of own kinds, told either way. -/
namespace GwE
open PySem PySem.SeqAt
open AutoSeq1 (wpAny_loadPart')
open MeetsSeq MeetsSeq2 MeetsSeq3 SeqRoads2
section
variable {prog : Program} {w : World} {A : Around} {R : Result → Shared → Prop}
def ListE (prog : Program) (w : World) (A : Around) (E : Value → Shared → Prop) (l b : Addr) (N : Nat) (e : Nat → Bool) (I : Nat → Shared → Prop) : Prop :=
  ∀ i s, I i s → ∃ (items items2 : Array Value) (n n2 : Nat), s.heap.get? l = some { cls := .type "list", data := .seq items n } ∧ s.heap.get? b = some { cls := .type "list", data := .seq items2 n2 } ∧ items.size = N ∧ items2.size = N ∧
    ∀ (h1 : i < items.size) (h2 : i < items2.size), wpAny (model prog w) A.in1 (eqBool items[i] items2[i]) (fun r s' => r = e i ∧ I (i + 1) s') E s
theorem eq_loopE (l b : Addr) (N : Nat) (e : Nat → Bool) (I : Nat → Shared → Prop) (hl : ListE prog w A (fun e s' => R (.error e) s') l b N e I)
    (fin : ∀ s, (∀ j, j < N → e j = true) → I N s → R (.ok (.ret (.bool true))) s) (out : ∀ i s, i < N → e i = false → I (i + 1) s → R (.ok (.ret (.bool false))) s) (k : Nat) :
    ∀ i : Nat, N - i = k → i ≤ N → (∀ j, j < i → e j = true) → ∀ s, I i s →
      wpAny (model prog w) A.in1 (Builtin.«list.__eq__.loop» ⟨[.ref l, .ref b, rawInt i, rawInt 2], []⟩) (GQ.FinOf prog w A R) (fun e s' => R (.error e) s') s := by
  induction k with
  | zero =>
    intro i hk hi hb0 s h
    obtain ⟨items, items2, n, n2, hl1, hb1, hs1, hs2, _⟩ := hl _ _ h
    have hi' : i = N := by omega
    have hR : R (.ok (.ret (.bool true))) s := fin s (fun j hj => hb0 j (by omega)) (hi' ▸ h)
    obtain ⟨hp, g, d, tk, os⟩ := s
    wp_walk using wpAny_loadPart' hl1, wpAny_loadPart' hb1
    have hi1 : items[((i : Nat) : Int).toNat]? = none := by simp; omega
    have hi2 : items2[((i : Nat) : Int).toNat]? = none := by simp; omega
    rw [hi1, hi2]
    wp_walk using wpAny_loadPart' hl1, wpAny_loadPart' hb1
    show R (.ok (.ret (.bool (items.size == items2.size)))) _
    rw [hs1, hs2]
    simpa using hR
  | succ k ih =>
    intro i hk hi hb0 s h
    obtain ⟨items, items2, n, n2, hl1, hb1, hs1, hs2, turn⟩ := hl _ _ h
    have hlt : i < items.size := by omega
    have hlt2 : i < items2.size := by omega
    have ht := turn hlt hlt2
    obtain ⟨hp, g, d, tk, os⟩ := s
    wp_walk using wpAny_loadPart' hl1, wpAny_loadPart' hb1
    have hi1 : items[((i : Nat) : Int).toNat]? = some items[i] := by simp [hlt]
    have hi2 : items2[((i : Nat) : Int).toNat]? = some items2[i] := by simp [hlt2]
    have hc : ((i : Int) + 1) = ((i + 1 : Nat) : Int) := by omega
    rw [hi1, hi2]
    refine wpAny_bind (wpAny_mono ht (fun r s2 h2 => ?_) fun _ _ x => x)
    obtain ⟨hr, h2⟩ := h2
    cases he : e i with
    | true =>
      rw [he] at hr
      subst hr
      have hrec := ih (i + 1) (by omega) (by omega) (fun j hj => by
        by_cases q : j = i
        · rw [q]; exact he
        · exact hb0 j (by omega)) s2 h2
      obtain ⟨hp2, g2, d2, tk2, os2⟩ := s2
      wp_walk
      rw [hc]
      exact ⟨plainId_quiet plain_eq_loop _, codeAny_builtin entry_eq_loop (by
        rw [Around.under_plainId plain_eq_loop _]
        exact hrec)⟩
    | false =>
      rw [he] at hr
      subst hr
      have hR := out i s2 (by omega) he h2
      obtain ⟨it3, it4, n3, n4, hl3, hb3, hs3, hs4, _⟩ := hl _ _ h2
      obtain ⟨hp2, g2, d2, tk2, os2⟩ := s2
      wp_walk using wpAny_loadPart' hl3, wpAny_loadPart' hb3
      have hj1 : it3[((i : Nat) : Int).toNat]? = some it3[i] := by
        have : i < it3.size := by omega
        simp [this]
      have hj2 : it4[((i : Nat) : Int).toNat]? = some it4[i] := by
        have : i < it4.size := by omega
        simp [this]
      rw [hj1, hj2]
      wp_walk
      simpa using hR
theorem ne_loopE (l b : Addr) (N : Nat) (e : Nat → Bool) (I : Nat → Shared → Prop) (hl : ListE prog w A (fun e s' => R (.error e) s') l b N e I)
    (fin : ∀ s, (∀ j, j < N → e j = true) → I N s → R (.ok (.ret (.bool false))) s) (out : ∀ i s, i < N → e i = false → I (i + 1) s → R (.ok (.ret (.bool true))) s) (k : Nat) :
    ∀ i : Nat, N - i = k → i ≤ N → (∀ j, j < i → e j = true) → ∀ s, I i s →
      wpAny (model prog w) A.in1 (Builtin.«list.__eq__.loop» ⟨[.ref l, .ref b, rawInt i, rawInt 3], []⟩) (GQ.FinOf prog w A R) (fun e s' => R (.error e) s') s := by
  induction k with
  | zero =>
    intro i hk hi hb0 s h
    obtain ⟨items, items2, n, n2, hl1, hb1, hs1, hs2, _⟩ := hl _ _ h
    have hi' : i = N := by omega
    have hR : R (.ok (.ret (.bool false))) s := fin s (fun j hj => hb0 j (by omega)) (hi' ▸ h)
    obtain ⟨hp, g, d, tk, os⟩ := s
    wp_walk using wpAny_loadPart' hl1, wpAny_loadPart' hb1
    have hi1 : items[((i : Nat) : Int).toNat]? = none := by simp; omega
    have hi2 : items2[((i : Nat) : Int).toNat]? = none := by simp; omega
    rw [hi1, hi2]
    wp_walk using wpAny_loadPart' hl1, wpAny_loadPart' hb1
    show R (.ok (.ret (.bool (items.size != items2.size)))) _
    rw [hs1, hs2]
    simpa using hR
  | succ k ih =>
    intro i hk hi hb0 s h
    obtain ⟨items, items2, n, n2, hl1, hb1, hs1, hs2, turn⟩ := hl _ _ h
    have hlt : i < items.size := by omega
    have hlt2 : i < items2.size := by omega
    have ht := turn hlt hlt2
    obtain ⟨hp, g, d, tk, os⟩ := s
    wp_walk using wpAny_loadPart' hl1, wpAny_loadPart' hb1
    have hi1 : items[((i : Nat) : Int).toNat]? = some items[i] := by simp [hlt]
    have hi2 : items2[((i : Nat) : Int).toNat]? = some items2[i] := by simp [hlt2]
    have hc : ((i : Int) + 1) = ((i + 1 : Nat) : Int) := by omega
    rw [hi1, hi2]
    refine wpAny_bind (wpAny_mono ht (fun r s2 h2 => ?_) fun _ _ x => x)
    obtain ⟨hr, h2⟩ := h2
    cases he : e i with
    | true =>
      rw [he] at hr
      subst hr
      have hrec := ih (i + 1) (by omega) (by omega) (fun j hj => by
        by_cases q : j = i
        · rw [q]; exact he
        · exact hb0 j (by omega)) s2 h2
      obtain ⟨hp2, g2, d2, tk2, os2⟩ := s2
      wp_walk
      rw [hc]
      exact ⟨plainId_quiet plain_eq_loop _, codeAny_builtin entry_eq_loop (by
        rw [Around.under_plainId plain_eq_loop _]
        exact hrec)⟩
    | false =>
      rw [he] at hr
      subst hr
      have hR := out i s2 (by omega) he h2
      obtain ⟨it3, it4, n3, n4, hl3, hb3, hs3, hs4, _⟩ := hl _ _ h2
      obtain ⟨hp2, g2, d2, tk2, os2⟩ := s2
      wp_walk using wpAny_loadPart' hl3, wpAny_loadPart' hb3
      have hj1 : it3[((i : Nat) : Int).toNat]? = some it3[i] := by
        have : i < it3.size := by omega
        simp [this]
      have hj2 : it4[((i : Nat) : Int).toNat]? = some it4[i] := by
        have : i < it4.size := by omega
        simp [this]
      rw [hj1, hj2]
      wp_walk
      simpa using hR
theorem list_eqE (l b : Addr) (N : Nat) (e : Nat → Bool) (I : Nat → Shared → Prop) (hl : ListE prog w A (fun e s' => R (.error e) s') l b N e I)
    (fin : ∀ s, (∀ j, j < N → e j = true) → I N s → R (.ok (.ret (.bool true))) s) (out : ∀ i s, i < N → e i = false → I (i + 1) s → R (.ok (.ret (.bool false))) s) {s : Shared} (h : I 0 s) :
    wpAny (model prog w) A.in1 (Builtin.«list.__eq__» ⟨[.ref l, .ref b], []⟩) (GQ.FinOf prog w A R) (fun e s' => R (.error e) s') s := by
  obtain ⟨items, items2, n, n2, hl1, hb1, hs1, hs2, _⟩ := hl _ _ h
  have hrec := eq_loopE (A := A) (R := R) l b N e I hl fin out _ 0 rfl (Nat.zero_le _) (fun j hj => by omega) s h
  obtain ⟨hp, g, d, tk, os⟩ := s
  have f3 := AutoSeq1.sub_list_list
  have hne : ¬ (items.size != items2.size) = true := by simp [hs1, hs2]
  wp_walk using wpAny_loadPart' hl1, wpAny_loadPart' hb1
  exact ⟨plainId_quiet plain_eq_loop _, codeAny_builtin entry_eq_loop (by
    rw [Around.under_plainId plain_eq_loop _]
    exact hrec)⟩
theorem list_neE (l b : Addr) (N : Nat) (e : Nat → Bool) (I : Nat → Shared → Prop) (hl : ListE prog w A (fun e s' => R (.error e) s') l b N e I)
    (fin : ∀ s, (∀ j, j < N → e j = true) → I N s → R (.ok (.ret (.bool false))) s) (out : ∀ i s, i < N → e i = false → I (i + 1) s → R (.ok (.ret (.bool true))) s) {s : Shared} (h : I 0 s) :
    wpAny (model prog w) A.in1 (Builtin.«list.__ne__» ⟨[.ref l, .ref b], []⟩) (GQ.FinOf prog w A R) (fun e s' => R (.error e) s') s := by
  obtain ⟨items, items2, n, n2, hl1, hb1, hs1, hs2, _⟩ := hl _ _ h
  have hrec := ne_loopE (A := A) (R := R) l b N e I hl fin out _ 0 rfl (Nat.zero_le _) (fun j hj => by omega) s h
  obtain ⟨hp, g, d, tk, os⟩ := s
  have f3 := AutoSeq1.sub_list_list
  have hne : ¬ (items.size != items2.size) = true := by simp [hs1, hs2]
  wp_walk using wpAny_loadPart' hl1, wpAny_loadPart' hb1
  exact ⟨plainId_quiet plain_eq_loop _, codeAny_builtin entry_eq_loop (by
    rw [Around.under_plainId plain_eq_loop _]
    exact hrec)⟩
theorem list_eqL (l b : Addr) (items items2 : Array Value) (n n2 : Nat) (hne : (items.size != items2.size) = true) {s : Shared} (hl1 : s.heap.get? l = some { cls := .type "list", data := .seq items n }) (hb1 : s.heap.get? b = some { cls := .type "list", data := .seq items2 n2 })
    (h : R (.ok (.ret (.bool false))) s) : wpAny (model prog w) A.in1 (Builtin.«list.__eq__» ⟨[.ref l, .ref b], []⟩) (GQ.FinOf prog w A R) (fun e s' => R (.error e) s') s := by
  obtain ⟨hp, g, d, tk, os⟩ := s
  have f3 := AutoSeq1.sub_list_list
  wp_walk using wpAny_loadPart' hl1, wpAny_loadPart' hb1
  exact h
theorem tuple_eqE (l b : Addr) (items items2 : Array Value) (n n2 : Nat) (dd dd2 : Option Addr) (sl sl2 : Array (Option Value)) (hsz : items.size = items2.size) (e : Nat → Bool) (I : Nat → Shared → Prop)
    (turn : ∀ i (h1 : i < items.size) (h2 : i < items2.size) s, I i s → wpAny (model prog w) A.in1 (eqBool items[i] items2[i]) (fun r s' => r = e i ∧ I (i + 1) s') (fun e s' => R (.error e) s') s)
    (fin : ∀ s, (∀ j, j < items.size → e j = true) → I items.size s → R (.ok (.ret (.bool true))) s) (out : ∀ i s, i < items.size → e i = false → I (i + 1) s → R (.ok (.ret (.bool false))) s) {s : Shared} (hl1 : s.heap.get? l = some { cls := .type "tuple", dict := dd, data := .seq items n, slots := sl }) (hb1 : s.heap.get? b = some { cls := .type "tuple", dict := dd2, data := .seq items2 n2, slots := sl2 }) (h : I 0 s) :
    wpAny (model prog w) A.in1 (Builtin.«tuple.__eq__» ⟨[.ref l, .ref b], []⟩) (GQ.FinOf prog w A R) (fun e s' => R (.error e) s') s := by
  have f2 := AutoSeq1.sub_tuple_tuple
  have hZ : (items.toList.zip items2.toList).length = items.size := by simp [hsz]
  have h0 := h
  obtain ⟨hp, g, d, tk, os⟩ := s
  wp_walk using wpAny_loadPart' hl1, wpAny_loadPart' hb1, wpAny_forIn_list _ (fun rest b s' => b.1 = none ∧ ∃ i, rest = (items.toList.zip items2.toList).drop i ∧ i ≤ items.size ∧ (∀ j, j < i → e j = true) ∧ I i s') _
  case turn =>
    rintro ⟨y, x⟩ rest b s' ⟨hb', i, hz, hi, hj, hI⟩
    have hlt : i < (items.toList.zip items2.toList).length := by
      rcases Nat.lt_or_ge i (items.toList.zip items2.toList).length with h' | h'
      · exact h'
      · rw [List.drop_of_length_le h'] at hz; cases hz
    have h1 : i < items.size := hZ ▸ hlt
    have h2 : i < items2.size := hsz ▸ h1
    rw [List.drop_eq_getElem_cons hlt] at hz
    injection hz with hyx hrest
    have hy : y = items[i] := by have := congrArg Prod.fst hyx; simpa using this
    have hx : x = items2[i] := by have := congrArg Prod.snd hyx; simpa using this
    subst hy hx
    refine wpAny_bind (wpAny_mono (turn i h1 h2 s' hI) (fun r s2 q2 => ?_) fun _ _ x => x)
    obtain ⟨hr, q2⟩ := q2
    cases he : e i with
    | true =>
      rw [he] at hr
      subst hr
      wp_walk
      exact ⟨rfl, i + 1, hrest, h1, fun j hj' => by
        by_cases q : j = i
        · rw [q]; exact he
        · exact hj j (by omega), q2⟩
    | false =>
      rw [he] at hr
      subst hr
      have hR := out i s2 h1 he q2
      wp_walk
      exact hR
  case fin =>
    rintro ⟨b1, b2⟩ s' ⟨hb', i, hz, hi, hj, hI⟩
    simp only at hb'
    subst hb'
    have hge : items.size ≤ i := by
      rcases Nat.lt_or_ge i (items.toList.zip items2.toList).length with h' | h'
      · rw [List.drop_eq_getElem_cons h'] at hz; cases hz
      · exact hZ ▸ h'
    have hi' : i = items.size := by omega
    have hR : R (.ok (.ret (.bool true))) s' := fin s' (fun j hj' => hj j (by omega)) (hi' ▸ hI)
    wp_walk
    simpa [Builtin.Tuple.tupleCompareSizes, hsz] using hR
  case h =>
    exact ⟨rfl, 0, rfl, Nat.zero_le _, fun j hj => by omega, h0⟩
end
end GwE
set_option maxHeartbeats 4000000
/-! == and != told either way, over the hand layer. -/
namespace GwE
open PySem PySem.SeqAt
open AutoSeq1 (wpAny_loadPart')
open MeetsSeq MeetsSeq2 MeetsSeq3 SeqRoads2
section
variable {prog : Program} {w : World} {A : Around} {E : Value → Shared → Prop} {s : Shared}
theorem rc_listE {l b : Addr} {N : Nat} {Q : Value → Shared → Prop} (hu : A.units < cLine) (e : Nat → Bool) (I : Nat → Shared → Prop) (hl : ListE prog w A E l b N e I)
    (fin : ∀ s, (∀ j, j < N → e j = true) → I N s → Q (.bool true) s) (out : ∀ i s, i < N → e i = false → I (i + 1) s → Q (.bool false) s) (h : I 0 s) : wpAny (model prog w) A (richCompare .Eq (.ref l) (.ref b)) Q E s := by
  obtain ⟨items, items2, n, n2, hl1, hb1, _, _, _⟩ := hl _ _ h
  refine wpAny_richCompare_same_room (op := .Eq) ⟨_, hl1, rfl⟩ ⟨_, hb1, rfl⟩ F.slot_list_eq (GQ.call_here F.slot_list_eq ⟨_, hl1, rfl⟩ F.entry_list_eq (F.args_list_eq_2 _ _) ?_) hu
  exact list_eqE (R := wants (fun v s' => v ≠ .notImplemented ∧ Q v s') E) l b N e I hl (fun s' z q => ⟨(fun x => nomatch x), fin s' z q⟩) (fun i s' a z q => ⟨(fun x => nomatch x), out i s' a z q⟩) h
theorem rc_listNE {l b : Addr} {N : Nat} {Q : Value → Shared → Prop} (hu : A.units < cLine) (e : Nat → Bool) (I : Nat → Shared → Prop) (hl : ListE prog w A E l b N e I)
    (fin : ∀ s, (∀ j, j < N → e j = true) → I N s → Q (.bool false) s) (out : ∀ i s, i < N → e i = false → I (i + 1) s → Q (.bool true) s) (h : I 0 s) : wpAny (model prog w) A (richCompare .NotEq (.ref l) (.ref b)) Q E s := by
  obtain ⟨items, items2, n, n2, hl1, hb1, _, _, _⟩ := hl _ _ h
  refine wpAny_richCompare_same_room (op := .NotEq) ⟨_, hl1, rfl⟩ ⟨_, hb1, rfl⟩ F.slot_list_ne (GQ.call_here F.slot_list_ne ⟨_, hl1, rfl⟩ F.entry_list_ne (F.args_list_ne_2 _ _) ?_) hu
  exact list_neE (R := wants (fun v s' => v ≠ .notImplemented ∧ Q v s') E) l b N e I hl (fun s' z q => ⟨(fun x => nomatch x), fin s' z q⟩) (fun i s' a z q => ⟨(fun x => nomatch x), out i s' a z q⟩) h
theorem rc_listL {l b : Addr} {items items2 : Array Value} {n n2 : Nat} {Q : Value → Shared → Prop} (hu : A.units < cLine) (hne : (items.size != items2.size) = true) (hl1 : s.heap.get? l = some { cls := .type "list", data := .seq items n }) (hb1 : s.heap.get? b = some { cls := .type "list", data := .seq items2 n2 })
    (h : Q (.bool false) s) : wpAny (model prog w) A (richCompare .Eq (.ref l) (.ref b)) Q E s := by
  refine wpAny_richCompare_same_room (op := .Eq) ⟨_, hl1, rfl⟩ ⟨_, hb1, rfl⟩ F.slot_list_eq (GQ.call_here F.slot_list_eq ⟨_, hl1, rfl⟩ F.entry_list_eq (F.args_list_eq_2 _ _) ?_) hu
  exact list_eqL (R := wants (fun v s' => v ≠ .notImplemented ∧ Q v s') E) l b items items2 n n2 hne hl1 hb1 ⟨(fun x => nomatch x), h⟩
theorem rc_tupE {l b : Addr} {items items2 : Array Value} {Q : Value → Shared → Prop} (hsz : items.size = items2.size) (hu : A.units < cLine) (e : Nat → Bool) (I : Nat → Shared → Prop)
    (hl : s.heap.IsTuple l items) (hb : s.heap.IsTuple b items2)
    (turn : ∀ i (h1 : i < items.size) (h2 : i < items2.size) s, I i s → wpAny (model prog w) A.in1 (eqBool items[i] items2[i]) (fun r s' => r = e i ∧ I (i + 1) s') E s)
    (fin : ∀ s, (∀ j, j < items.size → e j = true) → I items.size s → Q (.bool true) s) (out : ∀ i s, i < items.size → e i = false → I (i + 1) s → Q (.bool false) s) (h : I 0 s) : wpAny (model prog w) A (richCompare .Eq (.ref l) (.ref b)) Q E s := by
  obtain ⟨⟨cls, dd, data, sl⟩, ho, hc, n, hd⟩ := id hl
  obtain ⟨⟨cls2, dd2, data2, sl2⟩, ho2, hc2, n2, hd2⟩ := id hb
  simp only at hc hd hc2 hd2
  subst hc hd hc2 hd2
  refine wpAny_richCompare_same_room (op := .Eq) ⟨_, ho, rfl⟩ ⟨_, ho2, rfl⟩ F.slot_tuple_eq (GQ.call_here F.slot_tuple_eq ⟨_, ho, rfl⟩ F.entry_tuple_eq (F.args_tuple_eq_2 _ _) ?_) hu
  exact tuple_eqE (R := wants (fun v s' => v ≠ .notImplemented ∧ Q v s') E) l b items items2 n n2 dd dd2 sl sl2 hsz e I turn (fun s' z q => ⟨(fun x => nomatch x), fin s' z q⟩) (fun i s' a z q => ⟨(fun x => nomatch x), out i s' a z q⟩) ho ho2 h
end
end GwE
namespace Gw
open PySem PySem.Spec PyProof.Rows L2
/-- how two values are seen to be equal or not, by the abstract heap -/
abbrev EqB := V → V → Hp → Bool → Prop
def MonB (D : EqB) : Prop := ∀ x y H H' b, Ext H H' → D x y H b → D x y H' b
def RflB (D : EqB) : Prop := ∀ x H b, D x x H b → b = true
def EqD (X : Cx) (n : Nat) (D : EqB) : Prop :=
  ∀ (A : Around) (pins : List (Addr × Obj)) (s : Shared) (σ : L2.St) (H : Hp) (x y : V) (u v : Value) (b : Bool), Sub X n A → Inv X pins σ H s → RelV x u → RelV y v → D x y H b →
    wpAny (model X.prog X.w) A (eqBool u v) (fun r s' => r = b ∧ ∃ H', Inv X pins σ H' s' ∧ Ext H H') X.xe s
def RcD (X : Cx) (n : Nat) (op : CmpOp) (D : EqB) : Prop :=
  ∀ (A : Around) (pins : List (Addr × Obj)) (s : Shared) (σ : L2.St) (H : Hp) (x y : V) (u v : Value) (b : Bool), Sub X n A → Inv X pins σ H s → RelV x u → RelV y v → D x y H b →
    wpAny (model X.prog X.w) A (richCompare op u v) (fun r s' => r = .bool b ∧ ∃ H', Inv X pins σ H' s' ∧ Ext H H') X.xe s
section
variable {X : Cx} {n m : Nat} {D : EqB}
def PrsB (D : EqB) (xs ys : List V) (H : Hp) (e : Nat → Bool) : Prop := ∀ (i : Nat) x y, xs[i]? = some x → ys[i]? = some y → D x y H (e i)
theorem turnB (hD : MonB D) (h : EqD X n D) {A : Around} (sb : Sub X (n + 1) A) {pins : List (Addr × Obj)} {σ : L2.St} {H : Hp} {xs ys : List V} {its its2 : List Value} {e : Nat → Bool} (p : PrsB D xs ys H e) (r : Vals xs its) (r2 : Vals ys its2)
    (i : Nat) (h1 : i < its.toArray.size) (h2 : i < its2.toArray.size) (s' : Shared) (l : LoopI X pins σ H s') :
    wpAny (model X.prog X.w) A.in1 (eqBool its.toArray[i] its2.toArray[i]) (fun r s2 => r = e i ∧ LoopI X pins σ H s2) X.xe s' := by
  obtain ⟨H1, I1, e1⟩ := l
  have g1 : its[i]? = some its.toArray[i] := by
    have h1' : i < its.length := by simpa using h1
    rw [List.getElem?_eq_getElem h1'] <;> simp
  have g2 : its2[i]? = some its2.toArray[i] := by
    have h2' : i < its2.length := by simpa using h2
    rw [List.getElem?_eq_getElem h2'] <;> simp
  have k1 : i < xs.length := by rw [r.length]; simpa using h1
  have k2 : i < ys.length := by rw [r2.length]; simpa using h2
  obtain ⟨u, hu, ru⟩ := r.get (List.getElem?_eq_getElem k1)
  obtain ⟨v, hv, rv⟩ := r2.get (List.getElem?_eq_getElem k2)
  rw [g1] at hu
  rw [g2] at hv
  rw [Option.some.inj hu, Option.some.inj hv]
  refine wpAny_mono (h A.in1 pins s' σ H1 _ _ u v _ sb.in1 I1 ru rv (hD _ _ _ _ _ e1 (p i _ _ (List.getElem?_eq_getElem k1) (List.getElem?_eq_getElem k2)))) (fun r s2 q => ?_) fun _ _ x => x
  obtain ⟨hr, H2, I2, e2⟩ := q
  exact ⟨hr, H2, I2, e1.trans e2⟩
/-- two lists, item by item -/
def DLs (D : EqB) : EqB := fun x y H b => ∃ a c xs ys, x = .ref a ∧ y = .ref c ∧ H a = some (.lst xs) ∧ H c = some (.lst ys) ∧ (xs.length ≠ ys.length → b = false) ∧ (xs.length = ys.length → ∃ e, PrsB D xs ys H e ∧ (b = true ↔ ∀ j, j < xs.length → e j = true))
def DTp (K : PySem.W.Frag) (D : EqB) : EqB := fun x y H b => ∃ a c xs ys e, x = .ref a ∧ y = .ref c ∧ SqT K H a xs ∧ SqT K H c ys ∧ xs.length = ys.length ∧ PrsB D xs ys H e ∧ (b = true ↔ ∀ j, j < xs.length → e j = true)
theorem PrsB.mon (hD : MonB D) {xs ys : List V} {H H' : Hp} {e : Nat → Bool} (x : Ext H H') (p : PrsB D xs ys H e) : PrsB D xs ys H' e := fun i a b h1 h2 => hD a b H H' _ x (p i a b h1 h2)
theorem monB_ls (hD : MonB D) : MonB (DLs D) := fun x y H H' b e d => by
  obtain ⟨a, c, xs, ys, hx, hy, h1, h2, h3, h4⟩ := d
  exact ⟨a, c, xs, ys, hx, hy, e _ _ h1, e _ _ h2, h3, fun q => let ⟨f, p, z⟩ := h4 q; ⟨f, p.mon hD e, z⟩⟩
theorem monB_tp {K : PySem.W.Frag} (hD : MonB D) : MonB (DTp K D) := fun x y H H' b e d => by
  obtain ⟨a, c, xs, ys, f, hx, hy, h1, h2, h3, p, z⟩ := d
  exact ⟨a, c, xs, ys, f, hx, hy, h1.ext e, h2.ext e, h3, p.mon hD e, z⟩
theorem rfl_ls (hR : RflB D) : RflB (DLs D) := fun x H b d => by
  obtain ⟨a, c, xs, ys, hx, hy, h1, h2, h3, h4⟩ := d
  rw [hx] at hy
  cases hy
  rw [h1] at h2
  cases h2
  obtain ⟨e, p, z⟩ := h4 rfl
  refine z.mpr fun j hj => hR _ H _ (p j xs[j] xs[j] ?_ ?_) <;> exact List.getElem?_eq_getElem hj
theorem sqT_uni {K : PySem.W.Frag} {pins : List (Addr × Obj)} {σ : L2.St} {H : Hp} {s : Shared} (I : Inv X pins σ H s) (hK : K = X.K) {a : Addr} {xs : List V} (h : SqT K H a xs) : ∃ its, Vals xs its ∧ s.heap.IsTuple a its.toArray := by
  subst hK
  obtain ⟨its, r, e, z⟩ := I.tuple h
  exact ⟨its, r, e⟩
theorem eqD_of (h : RcD X n .Eq D) (hR : RflB D) (hr : ∀ x y H b, D x y H b → ∃ a c, x = .ref a ∧ y = .ref c) : EqD X n D := by
  intro A pins s σ H x y u v b sb I rx ry d
  obtain ⟨a, c, rfl, rfl⟩ := hr _ _ _ _ d
  cases rx
  cases ry
  by_cases hab : a = c
  · subst hab
    rw [hR _ _ _ d]
    exact SeqAt.EqAt.same (A := A) (s := s) (.ref a) X.prog X.w X.xe _ ⟨rfl, H, I, Ext.rfl'⟩
  · refine GQ.eqBool_refG hab (wpAny_mono (h A pins s σ H (.ref a) (.ref c) _ _ _ sb I rfl rfl d) (fun r s' q => ?_) fun _ _ x => x)
    obtain ⟨hr', q⟩ := q
    exact ⟨b, hr', rfl, q⟩
theorem rcD_ls (hD : MonB D) (h : EqD X n D) : RcD X (n + 1) .Eq (DLs D) := by
  intro A pins s σ H x y u v b sb I rx ry d
  obtain ⟨a, c, xs, ys, rfl, rfl, ha, hb, h3, h4⟩ := d
  cases rx
  cases ry
  by_cases hl : xs.length = ys.length
  · obtain ⟨e, p, z⟩ := h4 hl
    refine GwE.rc_listE (N := xs.length) sb.room.units0 e (fun _ s' => LoopI X pins σ H s') (fun i s' q => ?_) (fun s' a q => ⟨by rw [z.mpr a], q⟩) (fun i s' hi a q => ⟨?_, q⟩) ⟨H, I, Ext.rfl'⟩
    · obtain ⟨H1, I1, e1⟩ := id q
      obtain ⟨zz, its, k, r, ee⟩ := I1.hok a _ (e1 _ _ ha)
      obtain ⟨z2, its2, k2, r2, e2⟩ := I1.hok c _ (e1 _ _ hb)
      refine ⟨its.toArray, its2.toArray, k, k2, ee, e2, by rw [List.size_toArray, ← r.length], by rw [List.size_toArray, ← r2.length, ← hl], fun h1 h2 => ?_⟩
      exact turnB hD h sb p r r2 i h1 h2 s' q
    · congr 1
      cases hb' : b with
      | false => rfl
      | true => rw [z.mp hb' i hi] at a; cases a
  · obtain ⟨zz, its, k, r, ee⟩ := I.hok a _ ha
    obtain ⟨z2, its2, k2, r2, e2⟩ := I.hok c _ hb
    refine GwE.rc_listL sb.room.units0 (items := its.toArray) (items2 := its2.toArray) ?_ ee e2 ⟨by rw [h3 hl], H, I, Ext.rfl'⟩
    rw [List.size_toArray, List.size_toArray, ← r.length, ← r2.length]
    simpa using hl
theorem rcD_lsN (hD : MonB D) (h : EqD X n D) : RcD X (n + 1) .NotEq (fun x y H b => (∃ a c xs ys, x = .ref a ∧ y = .ref c ∧ H a = some (.lst xs) ∧ H c = some (.lst ys) ∧ xs.length = ys.length ∧ ∃ e, PrsB D xs ys H e ∧ (b = false ↔ ∀ j, j < xs.length → e j = true))) := by
  intro A pins s σ H x y u v b sb I rx ry d
  obtain ⟨a, c, xs, ys, rfl, rfl, ha, hb, hl, e, p, z⟩ := d
  cases rx
  cases ry
  refine GwE.rc_listNE (N := xs.length) sb.room.units0 e (fun _ s' => LoopI X pins σ H s') (fun i s' q => ?_) (fun s' a q => ⟨by rw [z.mpr a], q⟩) (fun i s' hi a q => ⟨?_, q⟩) ⟨H, I, Ext.rfl'⟩
  · obtain ⟨H1, I1, e1⟩ := id q
    obtain ⟨zz, its, k, r, ee⟩ := I1.hok a _ (e1 _ _ ha)
    obtain ⟨z2, its2, k2, r2, e2⟩ := I1.hok c _ (e1 _ _ hb)
    refine ⟨its.toArray, its2.toArray, k, k2, ee, e2, by rw [List.size_toArray, ← r.length], by rw [List.size_toArray, ← r2.length, ← hl], fun h1 h2 => ?_⟩
    exact turnB hD h sb p r r2 i h1 h2 s' q
  · congr 1
    cases hb' : b with
    | true => rfl
    | false => rw [z.mp hb' i hi] at a; cases a
theorem rcD_tp (hD : MonB D) (h : EqD X n D) : RcD X (n + 1) .Eq (DTp X.K D) := by
  intro A pins s σ H x y u v b sb I rx ry d
  obtain ⟨a, c, xs, ys, e, rfl, rfl, ha, hb, hl, p, z⟩ := d
  cases rx
  cases ry
  obtain ⟨its, r, ee, zz⟩ := I.tuple ha
  obtain ⟨its2, r2, e2, z2⟩ := I.tuple hb
  have hsz : its.toArray.size = its2.toArray.size := by rw [List.size_toArray, List.size_toArray, ← r.length, ← r2.length]; exact hl
  have hxs : xs.length = its.toArray.size := by rw [List.size_toArray, ← r.length]
  refine GwE.rc_tupE hsz sb.room.units0 e (fun _ s' => LoopI X pins σ H s') ee e2 (fun i h1 h2 s' q => turnB hD h sb p r r2 i h1 h2 s' q) (fun s' a q => ⟨by rw [z.mpr (by rw [hxs]; exact a)], q⟩) (fun i s' hi a q => ⟨?_, q⟩) ⟨H, I, Ext.rfl'⟩
  congr 1
  cases hb' : b with
  | false => rfl
  | true => rw [z.mp hb' i (by rw [hxs]; exact hi)] at a; cases a
/-- two Ratios -/
def DQ (C : Addr) : EqB := fun x y H b => ∃ a c dx dy q r, x = .ref a ∧ y = .ref c ∧ H a = some (.ins C dx (qFs q)) ∧ H c = some (.ins C dy (qFs r)) ∧ b = decide (q = r)
theorem monB_q {C : Addr} : MonB (DQ C) := fun x y H H' b e d => by
  obtain ⟨a, c, dx, dy, q, r, hx, hy, h1, h2, z⟩ := d
  exact ⟨a, c, dx, dy, q, r, hx, hy, e _ _ h1, e _ _ h2, z⟩
theorem qFs_inj {q r : Rat} (h : qFs q = qFs r) : q = r := by
  unfold qFs at h
  injection h with h1 h2
  injection h2 with h3 h4
  have e1 := congrArg Prod.snd h1
  have e2 := congrArg Prod.snd h3
  have e1 : V.int q.num = V.int r.num := e1
  have e2 : V.int (q.den : Int) = V.int (r.den : Int) := e2
  injection e1 with e1
  injection e2 with e2
  exact Rat.ext e1 (by omega)
theorem rfl_q {C : Addr} : RflB (DQ C) := fun x H b d => by
  obtain ⟨a, c, dx, dy, q, r, hx, hy, h1, h2, z⟩ := d
  rw [hx] at hy
  cases hy
  rw [h1] at h2
  injection h2 with h2
  injection h2 with _ _ h3
  rw [z, decide_eq_true (qFs_inj h3)]
theorem rcD_q {C : Addr} (T : EqK X.prog X.w X.K X.mg X.base C n) : RcD X n .Eq (DQ C) := by
  obtain ⟨f, fd, hs, hf, _, _, F, hb⟩ := T
  intro A pins s σ H x y u v b sb I rx ry d
  obtain ⟨a, c, dx, dy, q, r, rfl, rfl, ha, hb', hz⟩ := d
  cases rx
  cases ry
  obtain ⟨mA, J, _⟩ := ins_get I.hok ha
  obtain ⟨mB, J', _⟩ := ins_get I.hok hb'
  obtain ⟨od, J, _⟩ := J.look
  obtain ⟨od', J', _⟩ := J'.look
  obtain ⟨m, hF⟩ := I.fr
  refine PySem.W.cmp_K (op := .Eq) (tb := .ref C) sb.room.units0 hF I.ok.mod.kin J J'.type (by simp [PySem.W.notFirst]) hs hf ?_
  have hsp : spEqQ C [.ref a, .ref c] H (fun v H' => v = .bl b ∧ Ext H H') E0 := by
    refine ⟨H, (q, r), ⟨Ex.refl H, fun _ h => nomatch h⟩, .cons (IsQ.up ⟨a, dx, rfl, ha⟩) (.cons (IsQ.up ⟨c, dy, rfl, hb'⟩) .nil), trivial, fun v F' H' g u => ?_⟩
    have e : v = .bl (decide (q = r)) := u.here
    exact ⟨by rw [e, hz], fun x o h => g.k x o h (fun z => nomatch z)⟩
  have e0 : Env0 X.prog X.w X.K X.mg X.base A X.stack s H := by
    have e := I.env0
    exact ⟨by rw [sb.fr]; exact e.frames, e.mod, e.bs, e.bsz, e.funs, e.frf, e.hok, e.bare⟩
  have hl := F.len _ _ _ _ hsp
  have r2 : Vals [V.ref a, V.ref c] [Value.ref a, Value.ref c] := .cons rfl (.cons rfl .nil)
  refine wpAny_call (codeAny_mono (F.run A X.stack s H ⟨[.ref a, .ref c], []⟩ [.ref a, .ref c] [.ref a, .ref c] _ E0 sb.room e0 (by
    have := hb s [.ref a, .ref c] I.kIn (by simpa using hl)
    simpa using this) r2 hsp) fun r s' hq => ?_)
  cases r with
  | error e => exact (pass00 (X := X) (E' := E0)) pins σ H s e s' I hq
  | ok fl =>
    cases fl with
    | ret w =>
      obtain ⟨z, H', I', rz, ez, ex⟩ := I.after hq
      subst ez
      cases rz
      exact ⟨rfl, H', I', ex⟩
    | next => exact False.elim hq
    | brk => exact False.elim hq
    | cont => exact False.elim hq
def rEqD (D : EqB) : R2 := fun x y H Q => ∃ b, D x y H b ∧ ∀ H', Ext H H' → Q (.bl b) H'
theorem op_eqD {op : CmpOp} (h : RcD X n op D) (hr : Room n X.A) (ho : compareOp op = richCompare op := by rfl) : OpR X (compareOp op) (rEqD D) := by
  intro pins s σ H x y v u Q I rx ry hq
  obtain ⟨b, d, q⟩ := hq
  rw [ho]
  refine wpAny_mono (h X.A pins s σ H x y v u b ⟨hr, rfl⟩ I rx ry d) (fun r s' z => ?_) fun _ _ x => x
  obtain ⟨hr', H', I', e⟩ := z
  subst hr'
  exact ⟨.bl b, H', I', rfl, q H' e⟩
/-! ### from what is known of lists -/
theorem prsB_of {α : Type} [DecidableEq α] [Inhabited α] {R : α → V → Hp → Prop} {F H : Hp} (hD : ∀ x y v w, Up (R x) v F → Up (R y) w F → D v w H (decide (x = y))) {xs ys : List α} {vs ws : List V} (h : LsOf R xs vs F) (k : LsOf R ys ws F) : PrsB D vs ws H (fun i => decide (xs[i]! = ys[i]!)) := fun i v w hv hw => by
  have li : i < xs.length := by rw [h.len]; exact (List.getElem?_eq_some_iff.mp hv).1
  have lj : i < ys.length := by rw [k.len]; exact (List.getElem?_eq_some_iff.mp hw).1
  obtain ⟨v', e1, u1⟩ := h.get (List.getElem?_eq_getElem li)
  obtain ⟨w', e2, u2⟩ := k.get (List.getElem?_eq_getElem lj)
  rw [hv] at e1
  rw [hw] at e2
  cases e1
  cases e2
  show D v w H (decide (xs[i]! = ys[i]!))
  rw [getElem!_pos xs i li, getElem!_pos ys i lj]
  exact hD _ _ v w u1 u2
theorem eq_all {α : Type} [DecidableEq α] [Inhabited α] {xs ys : List α} (hl : xs.length = ys.length) : decide (xs = ys) = true ↔ ∀ j, j < xs.length → decide (xs[j]! = ys[j]!) = true := by
  rw [decide_eq_true_eq]
  constructor
  · intro e j _
    rw [e]; simp
  · intro h
    apply List.ext_getElem hl
    intro i h1 h2
    have := h i h1
    rw [decide_eq_true_eq, getElem!_pos xs i h1, getElem!_pos ys i h2] at this
    exact this
theorem dls_of {α : Type} [DecidableEq α] [Inhabited α] {R : α → V → Hp → Prop} {F H : Hp} (ex : Ex F H) (hD : ∀ x y v w, Up (R x) v F → Up (R y) w F → D v w H (decide (x = y))) {xs ys : List α} {v w : V} (h : IsL R xs v F) (k : IsL R ys w F) : DLs D v w H (decide (xs = ys)) := by
  obtain ⟨a, vs, rfl, ha, ua⟩ := h
  obtain ⟨c, ws, rfl, hc, uc⟩ := k
  have l1 := ua.here.len
  have l2 := uc.here.len
  refine ⟨a, c, vs, ws, rfl, rfl, ex _ _ ha, ex _ _ hc, fun hne => decide_eq_false fun e => hne ?_, fun e => ⟨_, prsB_of hD ua.here uc.here, ?_⟩⟩
  · rw [← l1, ← l2, e]
  · rw [← l1]
    exact eq_all (by omega)
theorem dq_of {C : Addr} {F H : Hp} (ex : Ex F H) {q r : Rat} {v w : V} (h : Up (IsQ C q) v F) (k : Up (IsQ C r) w F) : DQ C v w H (decide (q = r)) := by
  obtain ⟨a, dx, rfl, ha⟩ := h.here
  obtain ⟨c, dy, rfl, hc⟩ := k.here
  exact ⟨a, c, dx, dy, q, r, rfl, rfl, ex _ _ ha, ex _ _ hc, rfl⟩
theorem refs_ls {x y : V} {H : Hp} {b : Bool} (d : DLs D x y H b) : ∃ a c, x = .ref a ∧ y = .ref c := let ⟨a, c, _, _, hx, hy, _⟩ := d; ⟨a, c, hx, hy⟩
theorem refs_q {C : Addr} {x y : V} {H : Hp} {b : Bool} (d : DQ C x y H b) : ∃ a c, x = .ref a ∧ y = .ref c := let ⟨a, c, _, _, _, _, hx, hy, _⟩ := d; ⟨a, c, hx, hy⟩
theorem refs_tp {K : PySem.W.Frag} {x y : V} {H : Hp} {b : Bool} (d : DTp K D x y H b) : ∃ a c, x = .ref a ∧ y = .ref c := let ⟨a, c, _, _, _, hx, hy, _⟩ := d; ⟨a, c, hx, hy⟩
theorem gr_ext {pp : Option Addr} {F H H' : Hp} (ok : Ok pp F H) (e : Ext H H') : Gr pp F H F H' := ⟨Ex.refl F, fun x o h => e _ _ (ok.s _ _ h), fun x o h _ => e _ _ h, fun x o h => .inl h, fun x hx => by
  obtain ⟨q1, i, j, q2, q3⟩ := ok.p x hx
  exact ⟨q1, i, j, e _ _ q2, q3⟩⟩
end
end Gw
set_option maxHeartbeats 4000000
/-! == and != of tables and of lists of guesses. -/
namespace Gw
open PySem PySem.Spec PyProof.Rows L2
section
variable {X : Cx} {E : En} {G : List Sl} {a b : Expr} {pos : Pos} {C : Addr} {k : Nat}
theorem eqD_q (T : EqK X.prog X.w X.K X.mg X.base C k) : EqD X k (DQ C) := eqD_of (rcD_q T) rfl_q fun _ _ _ _ d => refs_q d
theorem eqD_ls {D : EqB} (hD : MonB D) (hR : RflB D) (h : EqD X k D) : EqD X (k + 1) (DLs D) := eqD_of (rcD_ls hD h) (rfl_ls hR) fun _ _ _ _ d => refs_ls d
theorem lsq_dls {C : Addr} {F H : Hp} (ex : Ex F H) {xs ys : List Rat} {v w : V} (h : Up (IsL (IsQ C) xs) v F) (k : Up (IsL (IsQ C) ys) w F) : DLs (DQ C) v w H (decide (xs = ys)) := dls_of ex (fun x y v w h1 h2 => dq_of ex h1 h2) h.here k.here
theorem rop_neMM {pp : Option Addr} {M N : List (List Rat)} (hl : M.length = N.length) : ROp pp (rEqD (fun x y H b => (∃ a c xs ys, x = .ref a ∧ y = .ref c ∧ H a = some (.lst xs) ∧ H c = some (.lst ys) ∧ xs.length = ys.length ∧ ∃ e, PrsB (DLs (DQ C)) xs ys H e ∧ (b = false ↔ ∀ j, j < xs.length → e j = true)))) (IsL (IsL (IsQ C)) M) (IsL (IsL (IsQ C)) N) (IsB (!decide (M = N))) := fun x y F H Q ok u1 u2 kq => by
  obtain ⟨p, vs, rfl, hp, up⟩ := u1.here
  obtain ⟨q, ws, rfl, hq, uq⟩ := u2.here
  have l1 := up.here.len
  have l2 := uq.here.len
  refine ⟨!decide (M = N), ⟨p, q, vs, ws, rfl, rfl, ok.s _ _ hp, ok.s _ _ hq, by omega, _, prsB_of (fun x y v w h1 h2 => lsq_dls ok.s h1 h2) up.here uq.here, ?_⟩, fun H' ext => kq _ F H' (gr_ext ok ext) (fun _ _ => rfl)⟩
  rw [← l1, ← eq_all hl]
  simp
theorem jt_neMM {M N : List (List Rat)} (T : EqK X.prog X.w X.K X.mg X.base C k) (hr : Room (k + 2) X.A) (ha : PE X a (tE E G (IsL (IsL (IsQ C)) M))) (hb : PE X b (tE E G (IsL (IsL (IsQ C)) N))) (hl : M.length = N.length) : PT X (.Compare a [.NotEq] [b] pos) (tT E G (!decide (M = N))) :=
  jt_cmp (pt_cmpR (op_eqD (rcD_lsN (monB_ls monB_q) (eqD_ls monB_q rfl_q (eqD_q T))) hr) ha hb (nomark _)) (rop_neMM hl)
theorem dtp_of {K : PySem.W.Frag} {F H : Hp} (ex : Ex F H) {p q : Rat × Rat} {v w : V} (h : Up (IsPq C p) v F) (k : Up (IsPq C q) w F) : DTp K (DQ C) v w H (decide (p = q)) := by
  obtain ⟨a, vs, rfl, ha, ua⟩ := h.here
  obtain ⟨c, ws, rfl, hc, uc⟩ := k.here
  have A1 := ua.here
  have A2 := uc.here
  cases A1 with
  | cons r1 t1 => cases t1 with
    | cons r2 t2 => cases t2 with
      | nil => cases A2 with
        | cons s1 u1 => cases u1 with
          | cons s2 u2 => cases u2 with
            | nil =>
              refine ⟨a, c, _, _, fun i => if i = 0 then decide (p.1 = q.1) else decide (p.2 = q.2), rfl, rfl, SqT.of (ex _ _ ha), SqT.of (ex _ _ hc), rfl, fun i x y h1 h2 => ?_, ?_⟩
              · match i, h1, h2 with
                | 0, h1, h2 =>
                  simp at h1 h2
                  subst h1; subst h2
                  exact dq_of ex r1 s1
                | 1, h1, h2 =>
                  simp at h1 h2
                  subst h1; subst h2
                  exact dq_of ex r2 s2
                | i + 2, h1, _ => simp at h1
              · constructor
                · intro e j hj
                  have e := of_decide_eq_true e
                  subst e
                  show (if j = 0 then decide (p.1 = p.1) else decide (p.2 = p.2)) = true
                  split <;> simp
                · intro e
                  have e0 := e 0 (by simp)
                  have e1 := e 1 (by simp)
                  simp at e0 e1
                  exact decide_eq_true (Prod.ext e0 e1)
theorem rfl_tp {K : PySem.W.Frag} : RflB (fun x y H b => DTp K (DQ C) x y H b ∧ (x = y → b = true)) := fun x H b d => d.2 rfl
end
section
variable {X : Cx} {E : En} {G : List Sl} {a b : Expr} {pos : Pos} {C : Addr} {k : Nat}
abbrev DTq (K : PySem.W.Frag) (C : Addr) : EqB := fun x y H b => DTp K (DQ C) x y H b ∧ (x = y → b = true)
theorem monB_tq {K : PySem.W.Frag} : MonB (DTq K C) := fun x y H H' b e d => ⟨monB_tp monB_q _ _ _ _ _ e d.1, d.2⟩
theorem eqD_tq (T : EqK X.prog X.w X.K X.mg X.base C k) : EqD X (k + 1) (DTq X.K C) := by
  have h := rcD_tp (X := X) monB_q (eqD_q T)
  refine eqD_of (fun A pins s σ H x y u v b sb I rx ry d => h A pins s σ H x y u v b sb I rx ry d.1) rfl_tp fun _ _ _ _ d => refs_tp d.1
theorem dtq_of {K : PySem.W.Frag} {F H : Hp} (ex : Ex F H) {p q : Rat × Rat} {v w : V} (h : Up (IsPq C p) v F) (k : Up (IsPq C q) w F) : DTq K C v w H (decide (p = q)) := by
  refine ⟨dtp_of ex h k, fun e => ?_⟩
  subst e
  obtain ⟨a, vs, rfl, ha, ua⟩ := h.here
  obtain ⟨c, ws, e2, hc, uc⟩ := k.here
  cases e2
  rw [ha] at hc
  injection hc with hc
  injection hc with hc
  subst hc
  have A1 := ua.here
  have A2 := uc.here
  cases A1 with
  | cons r1 t1 => cases t1 with
    | cons r2 t2 => cases t2 with
      | nil => cases A2 with
        | cons s1 u1 => cases u1 with
          | cons s2 u2 =>
            have key : ∀ {x : V} {m n : Rat}, Up (IsQ C m) x F → Up (IsQ C n) x F → m = n := fun h1 h2 => by
              obtain ⟨a, dx, rfl, ha⟩ := h1.here
              obtain ⟨c, dy, e, hc⟩ := h2.here
              cases e
              rw [ha] at hc
              injection hc with hc
              injection hc with _ _ hc
              exact qFs_inj hc
            exact decide_eq_true (Prod.ext (key r1 s1) (key r2 s2))
theorem rop_eqGG {pp : Option Addr} {K : PySem.W.Frag} {M N : List (List (Rat × Rat))} : ROp pp (rEqD (DLs (DLs (DTq K C)))) (IsL (IsGQ C) M) (IsL (IsGQ C) N) (IsB (decide (M = N))) := fun x y F H Q ok u1 u2 kq =>
  ⟨_, dls_of (R := IsGQ C) (D := DLs (DTq K C)) ok.s (fun x y v w h1 h2 => dls_of (R := IsPq C) (D := DTq K C) ok.s (fun x y v w h1 h2 => dtq_of ok.s h1 h2) h1.here h2.here) u1.here u2.here, fun H' ext => kq _ F H' (gr_ext ok ext) (fun _ _ => rfl)⟩
theorem je_eqGG {M N : List (List (Rat × Rat))} (T : EqK X.prog X.w X.K X.mg X.base C k) (hr : Room (k + 3) X.A) (ha : PE X a (tE E G (IsL (IsGQ C) M))) (hb : PE X b (tE E G (IsL (IsGQ C) N))) : PE X (.Compare a [.Eq] [b] pos) (tE E G (IsB (decide (M = N)))) :=
  je_op (pe_cmpR (op_eqD (rcD_ls (monB_ls monB_tq) (eqD_ls monB_tq rfl_tp (eqD_tq T))) hr) ha hb (nomark _)) rop_eqGG
theorem jt_eqGG {M N : List (List (Rat × Rat))} (T : EqK X.prog X.w X.K X.mg X.base C k) (hr : Room (k + 3) X.A) (ha : PE X a (tE E G (IsL (IsGQ C) M))) (hb : PE X b (tE E G (IsL (IsGQ C) N))) : PT X (.Compare a [.Eq] [b] pos) (tT E G (decide (M = N))) :=
  jt_cmp (pt_cmpR (op_eqD (rcD_ls (monB_ls monB_tq) (eqD_ls monB_tq rfl_tp (eqD_tq T))) hr) ha hb (nomark _)) rop_eqGG
theorem rop_eqMM {pp : Option Addr} {M N : List (List Rat)} : ROp pp (rEqD (DLs (DLs (DQ C)))) (IsL (IsL (IsQ C)) M) (IsL (IsL (IsQ C)) N) (IsB (decide (M = N))) := fun x y F H Q ok u1 u2 kq =>
  ⟨_, dls_of ok.s (fun x y v w h1 h2 => lsq_dls ok.s h1 h2) u1.here u2.here, fun H' ext => kq _ F H' (gr_ext ok ext) (fun _ _ => rfl)⟩
theorem jt_eqMM {M N : List (List Rat)} (T : EqK X.prog X.w X.K X.mg X.base C k) (hr : Room (k + 2) X.A) (ha : PE X a (tE E G (IsL (IsL (IsQ C)) M))) (hb : PE X b (tE E G (IsL (IsL (IsQ C)) N))) : PT X (.Compare a [.Eq] [b] pos) (tT E G (decide (M = N))) :=
  jt_cmp (pt_cmpR (op_eqD (rcD_ls (monB_ls monB_q) (eqD_ls monB_q rfl_q (eqD_q T))) hr) ha hb (nomark _)) rop_eqMM
theorem rop_eqQQ {pp : Option Addr} {M N : List Rat} : ROp pp (rEqD (DLs (DQ C))) (IsL (IsQ C) M) (IsL (IsQ C) N) (IsB (decide (M = N))) := fun x y F H Q ok u1 u2 kq =>
  ⟨_, dls_of ok.s (fun x y v w h1 h2 => dq_of ok.s h1 h2) u1.here u2.here, fun H' ext => kq _ F H' (gr_ext ok ext) (fun _ _ => rfl)⟩
theorem je_eqQQ {M N : List Rat} (T : EqK X.prog X.w X.K X.mg X.base C k) (hr : Room (k + 1) X.A) (ha : PE X a (tE E G (IsL (IsQ C) M))) (hb : PE X b (tE E G (IsL (IsQ C) N))) : PE X (.Compare a [.Eq] [b] pos) (tE E G (IsB (decide (M = N)))) :=
  je_op (pe_cmpR (op_eqD (rcD_ls monB_q (eqD_q T)) hr) ha hb (nomark _)) rop_eqQQ
end
end Gw
set_option maxHeartbeats 4000000
namespace Gw
open PySem PySem.Spec PyProof.Rows L2
/-! ### what the law is about, in plain words -/
structure RowG (n : Nat) (r : List Rat) : Prop where
  l : r.length = n
  x : ∀ x ∈ r, (0 : Rat) ≤ x ∧ x.den ∣ 60
  s : sumR r = 1
structure Good0 (n : Nat) (B : List (List Rat)) : Prop where
  l : B.length = n
  r : ∀ r ∈ B, RowG n r
/-- a guess of the law for n places -/
def GuN (n : Nat) (g : RwG) : Prop := GuP g ∧ (n = 3 → g ∈ rwGs)
structure Cas3 (n : Nat) (B : List (List Rat)) (ws : List Nat) (gs : List RwG) : Prop where
  n2 : n = 2 ∨ n = 3
  b : Good0 n B
  wl : ws.length = n
  w : ∀ x ∈ ws, 1 ≤ x ∧ x ≤ 4
  gl : gs.length = n
  g : ∀ g ∈ gs, GuN n g
structure TabP (n : Nat) (T : List (List Rat)) : Prop where
  l : T.length = n
  r : ∀ r ∈ T, r.length = n
  f : ∀ r ∈ T, FitsL 0 r
  s : ∀ r ∈ T, sumR r = 0
  y : ((List.range n).map fun a => (List.range n).map fun t => (T[t]!)[a]!) = T
structure WlkP (n : Nat) (B : List (List Rat)) (ws : List Nat) (gs : List RwG) : Prop where
  gl : gs.length ≤ 10
  g4 : ∀ g ∈ gs, g.length ≤ 4
  r : RwOk n B ws
  l : (swR gs).length ≤ 12
  s : ∀ s ∈ swR gs, SwOk n s
  w1 : 1 ≤ sumN ws
  w2 : sumN ws ≤ 40
def FnsOk (n : Nat) (fs : List (List Int)) : Prop := fs.length ≤ 3 ∧ ∀ f ∈ fs, f.length = n ∧ ∀ x ∈ f, -1 ≤ x ∧ x ≤ 2
def fsQ (fs : List (List Int)) (ss : List Sw) : List (List Rat) := fs.map fun f => ss.map fun s => ((f[s.1]! : Int) : Rat)
structure MathR : Prop where
  row : ∀ n xs, n ≤ 3 → DrR n xs → RowG n (rowQ xs)
  t : ∀ n B ws gs, Cas3 n B ws gs → TldP B ws gs
  cc : ∀ n B ws gs, Cas3 n B ws gs → (CnR B ws gs ↔ Conn2 B)
  w : ∀ n B ws gs, Cas3 n B ws gs → WlkP n B ws gs
  m : ∀ n B ws gs, Cas3 n B ws gs → Conn2 B → TabP n (guessedR B (wQ ws) (gQ gs))
  e : ∀ n B ws gs, Cas3 n B ws gs → Conn2 B → ∀ fs, FnsOk n fs → ErrP (chR B ws (swR gs)) (shR ws (swR gs)) (fsQ fs (swR gs)) ∧ (∀ f ∈ fs, WtP (guessedR B (wQ ws) (gQ gs)) f) ∧ ersR (chR B ws (swR gs)) (shR ws (swR gs)) (fsQ fs (swR gs)) = fs.map (wtR (guessedR B (wQ ws) (gQ gs)))
section
variable {P : Program} {w : World} {K : PySem.W.Frag} {mg : Str → Option Value} {base : Heap} {C NW : Addr}
theorem flt0 {α β : Type} (l : List α) (f : α → β) : (l.filter fun _ => false).map f = [] := by simp
theorem nil_any {α : Type} {R : α → V → Hp → Prop} : ∀ v F, IsL R ([] : List α) v F → IsL IsI [] v F := fun v F ⟨a, vs, e, h, u⟩ => ⟨a, vs, e, h, u.imp fun F q => by
  cases q
  exact .nil⟩
theorem fns_two : ∀ v F, LstOf (Args [IsL IsI [1, 0]]) v F → Som (FnsOk 2) (IsL (IsL IsI)) v F := fun v F h => ⟨[[1, 0]], ⟨by decide, fun f hf => by simp at hf; subst hf; exact ⟨rfl, by decide⟩⟩, lst_to (fun vs F q => args_ls q) v F h⟩
theorem fns_last : ∀ v F, LstOf (Args [IsI 1, IsI 2, Som (fun z : Int => -1 ≤ z ∧ z ≤ 0) IsI]) v F → Som (fun z : Int => -1 ≤ z ∧ z ≤ 0) (fun z => IsL IsI [1, 2, z]) v F := fun v F ⟨a, vs, e, h, u⟩ => by
  cases u.here with
  | cons r1 t1 => cases t1 with
    | cons r2 t2 => cases t2 with
      | cons r3 t3 =>
        cases t3
        obtain ⟨z, hz, hv⟩ := r3.here
        exact ⟨z, hz, a, _, e, h, LsOf.up (.cons (fun _ _ => r1.here) (.cons (fun _ _ => r2.here) (.cons (fun _ _ => hv) .nil)))⟩
theorem fns_three : ∀ v F, LstOf (Args [IsL IsI [1, 0, 0], IsL IsI [0, 1, 0], Som (fun z : Int => -1 ≤ z ∧ z ≤ 0) (fun z => IsL IsI [1, 2, z])]) v F → Som (FnsOk 3) (IsL (IsL IsI)) v F := fun v F ⟨a, vs, e, h, u⟩ => by
  cases u.here with
  | cons r1 t1 => cases t1 with
    | cons r2 t2 => cases t2 with
      | cons r3 t3 =>
        cases t3
        obtain ⟨z, hz, hv⟩ := r3.here
        refine ⟨[[1, 0, 0], [0, 1, 0], [1, 2, z]], ⟨Nat.le_refl 3, fun f hf => ?_⟩, a, _, e, h, LsOf.up (.cons (LstOf.up r1.here) (.cons (LstOf.up r2.here) (.cons (LstOf.up hv) .nil)))⟩
        simp only [List.mem_cons, List.not_mem_nil, or_false] at hf
        rcases hf with rfl | rfl | rfl
        · exact ⟨rfl, by decide⟩
        · exact ⟨rfl, by decide⟩
        · refine ⟨rfl, fun x hx => ?_⟩
          simp only [List.mem_cons, List.not_mem_nil, or_false] at hx
          rcases hx with rfl | rfl | rfl <;> omega
abbrev sp__law_right (_ : Addr) : Sp := PrP (ι := Unit) (fun _ => []) (fun _ => True) (fun _ => IsB true)
abbrev Kn__law_right (P : Program) (w : World) (K : PySem.W.Frag) (mg : Str → Option Value) (base : Heap) (C : Addr) : Prop := Kn P w K mg base "_law_right" 15 ["pot"] (sp__law_right C)
theorem ok__law_right (Z : Glo K mg C) (MM : MathR) (mk : Mkr P w K mg base C 2) (oeq : EqK P w K mg base C 1) (psign : PropK P w K mg base C "sign" 1 (sp_Rsign C)) (ctotal : CmK P w K mg base C "total" 12 (sp_Rtotal C)) (k__law_draw : Kn__law_draw P w K mg base C) (k__law_pick : Kn__law_pick P w K mg base C) (k__law_proposal : Kn__law_proposal P w K mg base C) (k__law_weights : Kn__law_weights P w K mg base C) (k__law_two : Kn__law_two P w K mg base C) (k__law_three : Kn__law_three P w K mg base C) (k__law_is_joined : Kn__law_is_joined P w K mg base C) (k__law_told : Kn__law_told P w K mg base C) (k__law_standings : Kn__law_standings P w K mg base C) (k__law_chances : Kn__law_chances P w K mg base C) (k__law_shares : Kn__law_shares P w K mg base C) (k__law_errors : Kn__law_errors P w K mg base C) (k__law_worth : Kn__law_worth P w K mg base C) {f : Addr} {fd : FuncData} (Fd : FnP K "_law_right" st__law_right f fd) : FnOk P w K mg base CX0 15 f fd ["pot"] (sp__law_right C) := by
  refine fn_prP Fd sc__law_right (fun u => by first | rfl | (cases u <;> rfl)) (by decide) (fun X u E hX hp => ?_)
  obtain ⟨cdv, A, outer, s, H, E', rfl, hr⟩ := hX
  refine PSs.nox ?_
  have nd := (sc__law_right).nd
  replace hr : Room 14 (cxOf CX0 P w K mg base N__law_right "_law_right" (defScope st__law_right) f cdv A outer s H E').nox.A := hr
  refine js_seq (js_set (R := Som (fun n : Nat => n = 2 ∨ n = 3) IsU) (ps_set (i := 1) nd rfl (.inr rfl) (je_conv (R := PickK [IsI 2, IsI 2, IsI 3]) (jcP k__law_pick (hr.mono (by decide)) ⟨0, rfl⟩ (true, [IsI 2, IsI 2, IsI 3]) (ja_pot (pv 0) rfl (ja_cons (je_m (jm_lst (pe_lst (ja_cons jI (ja_cons jI (ja_cons jI ja_nil)))))) ja_nil)) ⟨by show 0 < 3; decide, by show 3 < 1000; decide, fun R hR => ?_⟩) (fun v F ⟨R, hR, h⟩ => ?_)))) ?_
  · simp only [List.mem_cons, List.not_mem_nil, or_false] at hR
    rcases hR with rfl | rfl | rfl <;> exact mo_I
  · simp only [List.mem_cons, List.not_mem_nil, or_false] at hR
    rcases hR with rfl | rfl | rfl
    · exact ⟨2, .inl rfl, h⟩
    · exact ⟨2, .inl rfl, h⟩
    · exact ⟨3, .inr rfl, h⟩
  refine js_open (i := 1) (P := fun n : Nat => n = 2 ∨ n = 3) (R := IsU) rfl (fun _ _ _ _ h _ => h) (fun n hn => ?_)
  have hn3 : n ≤ 3 := by omega
  refine js_seq (js_par3MFM (i := 2) (j := 3) (l := 4) (Rm := SomM (fun A : List (List Nat) => A.length = n ∧ ∀ r ∈ A, DrR n r) (fun A => LsOf (IsL (IsQ C)) (A.map rowQ))) (Ra := Som (fun ws : List Nat => ws.length = n ∧ ∀ x ∈ ws, 1 ≤ x ∧ x ≤ 4) (fun ws => IsL IsU ws)) (Rl := SomM (fun gs : List RwG => gs.length = 0 ∧ ∀ g ∈ gs, GuN n g) (LsOf (IsRw C))) (by decide) (by decide) (by decide) (ps_par3 (i := 2) (j := 3) (l := 4) rfl nd rfl rfl rfl (by decide) (by decide) (by decide) rfl rfl rfl (pa_cons (jcPM k__law_proposal (hr.mono (by decide)) ⟨0, rfl⟩ n (ja_pot (pv 0) rfl (ja_cons (jv 1 (R := IsU n)) ja_nil)) ⟨by omega, by omega⟩) (pa_cons (jcP k__law_weights (hr.mono (by decide)) ⟨0, rfl⟩ n (ja_pot (pv 0) rfl (ja_cons (jv 1 (R := IsU n)) ja_nil)) (by show n ≤ 10; omega)) (pa_cons (jm_conv (jm_ls (R := IsRw C) [] (jm_lst (pe_lst ja_nil))) (fun vs F h => ⟨[], ⟨rfl, fun x h => by simp at h⟩, h⟩)) pa_nil))) rfl)) ?_
  refine js_openM (i := 2) rfl (fun x vs F F' h e => LsOf.up h F' e) (fun A hA => ?_)
  refine js_open (i := 3) (P := fun ws : List Nat => ws.length = n ∧ ∀ x ∈ ws, 1 ≤ x ∧ x ≤ 4) (R := fun ws => IsL IsU ws) rfl (fun x v F F' h e => LstOf.up h F' e) (fun ws hw => ?_)
  have hB : Good0 n (A.map rowQ) := ⟨by rw [List.length_map, hA.1], fun r hr' => by
    obtain ⟨xs, hx, rfl⟩ := List.mem_map.mp hr'
    exact MM.row n xs hn3 (hA.2 xs hx)⟩
  generalize A.map rowQ = B at hB
  refine js_frz (i := 2) rfl ?_
  refine js_cons (N1 := fun G => ∃ s5, G = [.pot, .fz (IsU n), .fz (IsQM C B), .fz (IsL IsU ws), .mt (SomM (fun gs : List RwG => gs.length = n ∧ ∀ g ∈ gs, GuN n g) (LsOf (IsRw C))), s5, .un, .un, .un, .un, .un, .un, .un, .un, .un, .un, .un, .un]) (js_for PassesOwn.never rfl (ji_rangeN (n := n) (by omega) (pi_range1 rfl Z.range (ja_cons (jv 1 (R := IsU n)) ja_nil))) (fun x => jg1 5 nd) (fun i G => ∃ s5, G = [.pot, .fz (IsU n), .fz (IsQM C B), .fz (IsL IsU ws), .mt (SomM (fun gs : List RwG => gs.length = i ∧ ∀ g ∈ gs, GuN n g) (LsOf (IsRw C))), s5, .un, .un, .un, .un, .un, .un, .un, .un, .un, .un, .un, .un]) ⟨_, rfl⟩ ?_ (fun G1 h => by rwa [List.length_range] at h)) ?_
  · rintro i p G1 hi ⟨s5, rfl⟩
    have hin : i < n := by have := (List.getElem?_eq_some_iff.mp hi).1; simpa using this
    refine js_one (js_N (js_append (i := 4) (R := Som (GuN n) (IsRw C)) (Rm' := SomM (fun gs : List RwG => gs.length = i + 1 ∧ ∀ g ∈ gs, GuN n g) (LsOf (IsRw C))) (ps_expr (pe_bm PySem.F.plainAttrs_list PySem.F.slot_list_append PySem.F.type_list_append mt_append (pv 4) (pa_cons (je_ifS (Pb := fun b => b = true → n = 2) (PW.pt (jwS_and (b1 := decide ((n : Int) = 2)) (jt_cmp (pt_cmpR op_eq (jv 1 (R := IsU n)) jI (nomark _)) rop_eqI) (fun h => jwS_and1 (jts_cmp (pt_cmpR op_eq (jcP k__law_draw (hr.mono (by decide)) ⟨0, rfl⟩ 3 (ja_pot (pv 0) rfl (ja_cons jI ja_nil)) ⟨by decide, by decide⟩) jI (nomark _)) (rop_somL (fun _ => mo_I) fun d _ => rop_to rop_eqI fun v F h' => ⟨_, fun _ => ?_, h'⟩))) (fun _ h => nomatch h))) (fun h => je_conv (R := Som GuP (IsRw C)) (jcP k__law_three (hr.mono (by decide)) ⟨0, rfl⟩ () (ja_pot (pv 0) rfl ja_nil) trivial) (fun v F ⟨g, hg, h'⟩ => ⟨g, ⟨hg, fun e => ?_⟩, h'⟩)) (fun _ => jcPS (P := fun g : RwG × RwG => g.1 ∈ rwGs ∧ g.2 ∈ rwGs) (Rx := IsRp C) k__law_pick (hr.mono (by decide)) ⟨0, rfl⟩ (fun g => (false, [IsRw C g.1, IsRw C g.2])) (ja_pot (pv 0) rfl (ja_cons (jcP k__law_two (hr.mono (by decide)) ⟨0, rfl⟩ () (ja_pot (pv 0) rfl ja_nil) trivial) ja_nil)) (fun g => rfl) (fun g => mo_T) (fun g _ => ⟨by show 0 < 2; decide, by show 2 < 1000; decide, fun R hR => ?_⟩) (fun g hg v F ⟨R, hR, h⟩ => ?_))) pa_nil))) rfl (fun vs v F a b => ?_) (fun vs F a => ?_)) ?_)
    · have := of_decide_eq_true h
      omega
    · have := h rfl
      omega
    · have hR : R ∈ [IsRw C g.1, IsRw C g.2] := hR
      simp only [List.mem_cons, List.not_mem_nil, or_false] at hR
      rcases hR with rfl | rfl <;> exact mo_L
    · have hR : R ∈ [IsRw C g.1, IsRw C g.2] := hR
      simp only [List.mem_cons, List.not_mem_nil, or_false] at hR
      rcases hR with rfl | rfl
      · exact ⟨g.1, ⟨.inl hg.1, fun _ => hg.1⟩, h⟩
      · exact ⟨g.2, ⟨.inl hg.2, fun _ => hg.2⟩, h⟩
    · obtain ⟨gs, ⟨h1, h2⟩, h3⟩ := a.here
      obtain ⟨g, hg, h⟩ := b.here
      refine fun F' e' => ⟨gs ++ [g], ⟨by rw [List.length_append, h1]; rfl, fun x hx => ?_⟩, (LsOf.snoc h3 (LstOf.up h)).up F' e'⟩
      rcases List.mem_append.mp hx with q | q
      · exact h2 x q
      · have : x = g := by simpa using q
        rw [this]; exact hg
    · obtain ⟨gs, ⟨h1, h2⟩, h3⟩ := a
      rw [← h3.len, h1]
      exact line_of (m := 1000) (by omega)
    · rintro G' rfl
      exact ⟨_, rfl⟩
  rintro _ ⟨s5, rfl⟩
  refine js_openM (i := 4) rfl (fun x vs F F' h e => LsOf.up h F' e) (fun gs hg => ?_)
  refine js_frz (i := 4) rfl ?_
  have hC : Cas3 n B ws gs := ⟨hn, hB, hw.1, hw.2, hg.1, hg.2⟩
  have hW := MM.w n B ws gs hC
  have hcc := MM.cc n B ws gs hC
  have hBl := hB.l
  have hBr : ∀ r ∈ B, r.length = B.length := fun r h => by rw [(hB.r r h).l, hBl]
  refine js_seq (js_set (R := TldR C B ws gs) (ps_set (i := 6) nd rfl (.inr rfl) (jc k__law_told (hr.mono (by decide)) (B, ws, gs) (ja_cons (jv 2) (ja_cons (jv 3) (ja_cons (jv 4) ja_nil))) (MM.t n B ws gs hC)))) ?_
  by_cases hc : Conn2 B
  case neg =>
    refine js_weak (G' := [.pot, .fz (IsU n), .fz (IsQM C B), .fz (IsL IsU ws), .fz (IsL (IsRw C) gs), s5, .fz IsN, .un, .un, .un, .un, .un, .un, .un, .un, .un, .un, .un]) (.cons (Le.rfl' _) (.cons (Le.rfl' _) (.cons (Le.rfl' _) (.cons (Le.rfl' _) (.cons (Le.rfl' _) (.cons (Le.rfl' _) (.cons (.fz fun v F h => h.2 fun c => hc (hcc.mp c)) (.cons (Le.rfl' _) (.cons (Le.rfl' _) (.cons (Le.rfl' _) (.cons (Le.rfl' _) (.cons (Le.rfl' _) (.cons (Le.rfl' _) (.cons (Le.rfl' _) (.cons (Le.rfl' _) (.cons (Le.rfl' _) (.cons (Le.rfl' _) (.cons (Le.rfl' _) .nil)))))))))))))))))) ?_
    refine js_cons (N1 := fun _ => False) (js_if (b1 := true) (PW.pt (jw_or (b1 := true) (b2 := true) (jt_cmp (pt_cmpR op_isN (jv 6 (R := IsN)) jNon (nomark _)) (rop_isN (b := true) (fun v F h => by rw [show v = V.non from h]; rfl))) (fun h => nomatch h))) (fun _ => js_one (js_ret (je_eq (je_and (b1 := true) (b2 := true) (je_op (pe_cmpR op_isN (jv 6 (R := IsN)) jNon (nomark _)) (rop_isN (b := true) (fun v F h => by rw [show v = V.non from h]; rfl))) fun _ => pe_one (je_not (b1 := false) (je_conv (R := Som (fun b : Bool => b = true ↔ Conn2 B) IsB) (jc k__law_is_joined (hr.mono (by decide)) B (ja_cons (jv 2 (R := IsQM C B)) ja_nil) ⟨by omega, by omega, hBr⟩) (fun v F ⟨b, hb, h⟩ => ?_)))) rfl))) (fun h => nomatch h)) (fun G1 h => h.elim)
    have : b = false := by
      cases b
      · rfl
      · exact absurd (hb.mp rfl) hc
    rw [this] at h
    exact h
  case pos =>
    have hT := MM.m n B ws gs hC hc
    have hE := MM.e n B ws gs hC hc
    have hgd : CnR B ws gs := hcc.mpr hc
    obtain ⟨hgl, hg4, hR, hsl, hss, hw1, hw2⟩ := hW
    refine js_weak (G' := [.pot, .fz (IsU n), .fz (IsQM C B), .fz (IsL IsU ws), .fz (IsL (IsRw C) gs), s5, .fz (IsQM C (guessedR B (wQ ws) (gQ gs))), .un, .un, .un, .un, .un, .un, .un, .un, .un, .un, .un]) (.cons (Le.rfl' _) (.cons (Le.rfl' _) (.cons (Le.rfl' _) (.cons (Le.rfl' _) (.cons (Le.rfl' _) (.cons (Le.rfl' _) (.cons (.fz fun v F h => h.1 hgd) (.cons (Le.rfl' _) (.cons (Le.rfl' _) (.cons (Le.rfl' _) (.cons (Le.rfl' _) (.cons (Le.rfl' _) (.cons (Le.rfl' _) (.cons (Le.rfl' _) (.cons (Le.rfl' _) (.cons (Le.rfl' _) (.cons (Le.rfl' _) (.cons (Le.rfl' _) .nil)))))))))))))))))) ?_
    generalize guessedR B (wQ ws) (gQ gs) = T at *
    have hTl := hT.l
    refine js_seq (G1 := [.pot, .fz (IsU n), .fz (IsQM C B), .fz (IsL IsU ws), .fz (IsL (IsRw C) gs), s5, .fz (IsQM C T), .un, .un, .un, .un, .un, .un, .un, .un, .un, .un, .un]) (js_if (b1 := false) (PW.pt (jw_or (b1 := false) (b2 := false) (jt_cmp (pt_cmpR op_isN (jv 6 (R := IsQM C T)) jNon (nomark _)) (rop_isN (b := false) (fun v F h => by obtain ⟨a, vs, e, _⟩ := h; rw [e]; rfl))) fun _ => jw_or1 (jt_not (b1 := true) (jt_val (pt_val (je_conv (R := Som (fun b : Bool => b = true ↔ Conn2 B) IsB) (jc k__law_is_joined (hr.mono (by decide)) B (ja_cons (jv 2 (R := IsQM C B)) ja_nil) ⟨by omega, by omega, hBr⟩) (fun v F ⟨b, hb, h⟩ => ?_))))))) (fun h => nomatch h) (fun _ => js_nil rfl)) ?_
    · rw [hb.mpr hc] at h
      exact h
    refine js_seq (G1 := [.pot, .fz (IsU n), .fz (IsQM C B), .fz (IsL IsU ws), .fz (IsL (IsRw C) gs), s5, .fz (IsQM C T), .un, .un, .un, .un, .un, .un, .un, .un, .un, .un, .un]) (js_if (b1 := false) (PW.pt (jw_or (b1 := false) (b2 := false) (jt_eq (jt_cmp (pt_cmpR op_ne (jbB call_len Z.len boot_len (ja_cons (jv 6 (R := IsQM C T)) ja_nil) rc_len) (jv 1 (R := IsU n)) (nomark _)) rop_neI) (by rw [hTl]; simp)) fun _ => jw_or1 (jt_eq (jt_cmp (pt_cmpR (op_neD hr.units) (je_conv (je_eq (R' := IsL (IsL (IsQ C)) []) (je_m (jm_lc (own := [("row", 15)]) (Ry := IsL (IsQ C)) (fun _ : List Rat => false) (fun r : List Rat => r) rfl nd (ji_list (Rx := IsL (IsQ C)) (xs := T) (pi_list (jv 6))) (blkOk_by (by kernel_rfl)) (by decide) (fun s H C' cl fp q => jg1 15 nd) (fun s H C' cl fp r hx => jts_one (PW.pt (jw_or (b1 := false) (b2 := false) (jt_eq (jt_cmp (pt_cmpR op_ne (jbB call_len Z.len boot_len (ja_cons (jv 15 (R := IsL (IsQ C) r)) ja_nil) rc_len) (jv 1 (R := IsU n)) (nomark _)) rop_neI) (by rw [hT.r r hx]; simp)) fun _ => jw_or1 (jt_eq (jt_cmp (pt_cmpR op_ne (jprop psign (hr.mono (by decide)) (sumR r) (jcm ctotal (hr.mono (by decide)) r rfl Z.rat (ja_cons (jv 15 (R := IsL (IsQ C) r)) ja_nil) rfl ⟨hT.f r hx, by rw [hT.r r hx]; omega⟩) rfl trivial rfl) jI (nomark _)) rop_neI) (by rw [q_sgn_0, hT.s r hx]; rfl))))) (fun s H C' cl fp q hx h => nomatch h) (line_of (m := 1000) (by omega)))) (congrArg (IsL (IsL (IsQ C))) (flt0 _ _))) nil_any) (je_m (jm_ls (R := IsI) [] (jm_lst (pe_lst ja_nil)))) (nomark _)) rop_neNil) rfl))) (fun h => nomatch h) (fun _ => js_nil rfl)) ?_
    refine js_seq (G1 := [.pot, .fz (IsU n), .fz (IsQM C B), .fz (IsL IsU ws), .fz (IsL (IsRw C) gs), s5, .fz (IsQM C T), .un, .un, .un, .un, .un, .un, .un, .un, .un, .un, .un]) (js_if (b1 := false) (jt_eq (jt_neMM oeq (hr.mono (by decide)) (je_m (jlc (Ry := IsL (IsQ C)) (fun a : Nat => (List.range n).map fun t => (T[t]!)[a]!) [("at", 12)] nd (ji_rangeN (n := n) (by omega) (pi_range1 rfl Z.range (ja_cons (jv 1 (R := IsU n)) ja_nil))) (fun s H C' cl fp x => jg1 12 nd) (fun s H C' cl fp a ha => je_m (jlc (Ry := IsQ C) (fun t : Nat => (T[t]!)[a]!) [("to", 16)] nd (ji_rangeN (n := n) (by omega) (pi_range1 rfl Z.range (ja_cons (jv 1 (R := IsU n)) ja_nil))) (fun s H C' cl fp x => jg1 16 nd) (fun s H C' cl fp t ht => je_op (pe_ix ix_list (je_op (pe_ix ix_list (jv 6 (R := IsQM C T)) (jv 16 (R := IsU t)) (fun _ _ => rfl)) (rop_ixB (by have := List.mem_range.mp ht; omega))) (jv 12 (R := IsU a)) (fun _ _ => rfl)) (rop_ixB (by have h1 := List.mem_range.mp ht; have h2 := List.mem_range.mp ha; rw [hT.r _ (get_mem (by omega))]; omega))) (line_of (m := 1000) (by rw [List.length_range]; omega)))) (line_of (m := 1000) (by rw [List.length_range]; omega)))) (jv 6 (R := IsQM C T)) (by rw [List.length_map, List.length_range, hTl])) (by rw [hT.y]; simp)) (fun h => nomatch h) (fun _ => js_nil rfl)) ?_
    refine js_seq (js_set (R := IsL (IsSw C) (swR gs)) (ps_set (i := 7) nd rfl (.inr rfl) (jc k__law_standings (hr.mono (by decide)) gs (ja_cons (jv 4) ja_nil) ⟨hgl, hg4⟩))) ?_
    have hwl := hw.1
    refine js_seq (js_par (i := 8) (j := 9) (Ra := IsQM C (chR B ws (swR gs))) (Rb := IsL (IsQ C) (shR ws (swR gs))) (ps_par (i := 8) (j := 9) rfl nd rfl rfl (by decide) rfl rfl (pa_cons (jc k__law_chances (hr.mono (by decide)) (B, ws, swR gs) (ja_cons (jv 2) (ja_cons (jv 3) (ja_cons (jv 7) ja_nil))) ⟨n, hR, hsl, hss⟩) (pa_cons (jc k__law_shares (hr.mono (by decide)) (ws, swR gs) (ja_cons (jv 3) (ja_cons (jv 7) ja_nil)) ⟨hsl, by rw [show (ws, swR gs).1 = ws from rfl, hwl]; exact hss, hw.2, by show ws.length ≤ 10; omega, hw1, hw2⟩) pa_nil)) rfl)) ?_
    refine js_seq (js_set (R := Som (FnsOk n) (IsL (IsL IsI))) (ps_set (i := 10) nd rfl (.inl rfl) (je_if (b1 := decide ((n : Int) = 3)) (jt_cmp (pt_cmpR op_eq (jv 1 (R := IsU n)) jI (nomark _)) rop_eqI) (fun h => je_conv (je_m (jm_lst (Rs := [IsL IsI [1, 0, 0], IsL IsI [0, 1, 0], Som (fun z : Int => -1 ≤ z ∧ z ≤ 0) (fun z => IsL IsI [1, 2, z])]) (pe_lst (ja_cons (je_m (jm_ls (R := IsI) [1, 0, 0] (jm_lst (pe_lst (ja_cons jI (ja_cons jI (ja_cons jI ja_nil))))))) (ja_cons (je_m (jm_ls (R := IsI) [0, 1, 0] (jm_lst (pe_lst (ja_cons jI (ja_cons jI (ja_cons jI ja_nil))))))) (ja_cons (je_conv (je_m (jm_lst (Rs := [IsI 1, IsI 2, Som (fun z : Int => -1 ≤ z ∧ z ≤ 0) IsI]) (pe_lst (ja_cons jI (ja_cons jI (ja_cons (je_op (pe_op op_sub (jcP k__law_draw (hr.mono (by decide)) ⟨0, rfl⟩ 2 (ja_pot (pv 0) rfl (ja_cons jI ja_nil)) ⟨by decide, by decide⟩) jI) (rop_somL (P := fun d : Nat => d < 2) (Rx := IsU) (fun _ => mo_I) fun d hd => rop_to rop_sub fun v F h => ⟨(d : Int) - 1, by have : d < 2 := hd; omega, h⟩)) ja_nil)))))) fns_last) ja_nil)))))) (fun v F h' => ?_)) (fun h => je_conv (je_m (jm_lst (Rs := [IsL IsI [1, 0]]) (pe_lst (ja_cons (je_m (jm_ls (R := IsI) [1, 0] (jm_lst (pe_lst (ja_cons jI (ja_cons jI ja_nil)))))) ja_nil)))) (fun v F h' => ?_))))) ?_
    · have h := of_decide_eq_true h
      have e : n = 3 := by omega
      rw [e]
      exact fns_three v F h'
    · have h := of_decide_eq_false h
      have e : n = 2 := by omega
      rw [e]
      exact fns_two v F h'
    refine js_open (i := 10) rfl (fun x v F F' h e => LstOf.up h F' e) (fun fs hf => ?_)
    obtain ⟨e1, e2, e3⟩ := hE fs hf
    have hfl := hf.1
    refine js_seq (js_set (R := IsL (IsQ C) (ersR (chR B ws (swR gs)) (shR ws (swR gs)) (fsQ fs (swR gs)))) (ps_set (i := 11) nd rfl (.inl rfl) (jc k__law_errors (hr.mono (by decide)) (chR B ws (swR gs), shR ws (swR gs), fsQ fs (swR gs)) (ja_cons (jv 8) (ja_cons (jv 9) (ja_cons (je_m (jlc (Ry := IsL (IsQ C)) (fun f : List Int => (swR gs).map fun s => ((f[s.1]! : Int) : Rat)) [("function", 14)] nd (ji_list (Rx := IsL IsI) (xs := fs) (pi_list (jv 10))) (fun s H C' cl fp x => jg1 14 nd) (fun s H C' cl fp f hfm => je_m (jlc (Ry := IsQ C) (fun s : Sw => ((f[s.1]! : Int) : Rat)) [("chance", 13), ("place", 5), ("worth", 17)] nd (ji_list (Rx := IsSw C) (xs := swR gs) (pi_list (jv 7))) (fun s H C' cl fp x => jg3 5 13 17 nd) (fun s H C' cl fp x hx => jmk1 mk (hr.mono (by decide)) (ja_cons (je_op (pe_ix ix_list (jv 14 (R := IsL IsI f)) (jv 5 (R := IsU x.1)) (fun _ _ => rfl)) (rop_ixB (by have := (hss x hx).lt; have := (hf.2 f hfm).1; omega))) ja_nil)) (line_of (m := 1000) (by omega)))) (line_of (m := 1000) (by omega)))) ja_nil))) e1))) ?_
    exact js_one (js_ret (je_eq (je_eqQQ oeq (hr.mono (by decide)) (jv 11) (je_m (jlc (Ry := IsQ C) (fun f : List Int => wtR T f) [("function", 14)] nd (ji_list (Rx := IsL IsI) (xs := fs) (pi_list (jv 10 (R := IsL (IsL IsI) fs)))) (fun s H C' cl fp x => jg1 14 nd) (fun s H C' cl fp f hfm => jc k__law_worth (hr.mono (by decide)) (T, f) (ja_cons (jv 6) (ja_cons (jv 14 (R := IsL IsI f)) ja_nil)) (e2 f hfm)) (line_of (m := 1000) (by omega))))) (by rw [decide_eq_true]; exact e3)))
end
end Gw
set_option maxHeartbeats 4000000
namespace Gw
open PySem PySem.Spec PyProof.Rows L2
section
variable {P : Program} {w : World} {K : PySem.W.Frag} {mg : Str → Option Value} {base : Heap} {C : Addr}
abbrev Kn__law_pot (P : Program) (w : World) (K : PySem.W.Frag) (mg : Str → Option Value) (base : Heap) (C : Addr) : Prop := Kn P w K mg base "_law_pot" 1 ["script", "k"] (sp__law_pot K)
abbrev sp_law0 (K : PySem.W.Frag) : Sp := Pr (ι := List Int) (fun ns => [IsScr K ns]) (fun _ => True) (fun _ => IsB true)
theorem ok_law0 (Z : Glo K mg C) (k_pot : Kn__law_pot P w K mg base C) (k_right : Kn__law_right P w K mg base C) {f : Addr} {fd : FuncData} (Fd : FnP K "law" st_law f fd) : FnOk P w K mg base CX0 16 f fd ["script"] (sp_law0 K) := by
  refine fn_pr Fd sc_law (fun u => rfl) (fun _ => False) (fun _ _ h => h.elim) (fun X u E hX hp hE => ?_)
  obtain ⟨cdv, A, outer, s, H, E', rfl, hr⟩ := hX
  refine PSs.nox ?_
  rename List Int => ns
  exact js_one (js_ret (je_newpot k_right hr hE (fun vs F h => h) (jcM k_pot (hr.mono (by decide)) ns (ja_cons (jv 0 (R := IsScr K ns)) (ja_cons jI ja_nil)) trivial) (fun v F F' h => h)))
def spLaw (K : PySem.W.Frag) : Sp := fun vs H Q _ => ∃ (a : Addr) (ns : List Int), vs = [.ref a] ∧ SqL K H a (ns.map V.int) ∧ ∀ H', Q (.bl true) H'
theorem ok_law (Z : Glo K mg C) (k_pot : Kn__law_pot P w K mg base C) (k_right : Kn__law_right P w K mg base C) {f : Addr} {fd : FuncData} (Fd : FnP K "law" st_law f fd) : FnOk P w K mg base CX0 16 f fd ["script"] (spLaw K) := by
  refine (ok_law0 Z k_pot k_right Fd).imp fun vs H Q E' h => ?_
  obtain ⟨a, ns, rfl, hs, kq⟩ := h
  refine ⟨H, ns, ⟨Ex.refl H, fun _ z => nomatch z⟩, .cons (fun F' e => ⟨a, rfl, sql_ex hs e⟩) .nil, trivial, fun v F' H' g u => ?_⟩
  have e : v = .bl true := u.here
  rw [e]
  exact kq H'
end
end Gw
/-! Plain: sums over lists; flows on a graph: what is ahead is told by its goals. -/
namespace Gw
def S {α : Type} (l : List α) (f : α → Rat) : Rat := (l.map f).sum
section
variable {α β : Type} {l k : List α} {f g : α → Rat}
theorem S_nil : S ([] : List α) f = 0 := rfl
theorem S_cons {a : α} : S (a :: l) f = f a + S l f := by simp [S]
theorem S_app : S (l ++ k) f = S l f + S k f := by
  induction l with
  | nil => rw [List.nil_append, S_nil]; grind
  | cons a l ih => rw [List.cons_append, S_cons, S_cons, ih]; grind
theorem S_congr (h : ∀ a ∈ l, f a = g a) : S l f = S l g := by
  induction l with
  | nil => rfl
  | cons a l ih => rw [S_cons, S_cons, h a (by simp), ih fun b hb => h b (by simp [hb])]
theorem S_map {m : List β} {h : β → α} : S (m.map h) f = S m (fun b => f (h b)) := by
  induction m with
  | nil => rfl
  | cons a m ih => rw [List.map_cons, S_cons, S_cons, ih]
theorem S_add : S l (fun a => f a + g a) = S l f + S l g := by
  induction l with
  | nil => simp only [S_nil]; grind
  | cons a l ih => simp only [S_cons, ih]; grind
theorem S_sub : S l (fun a => f a - g a) = S l f - S l g := by
  induction l with
  | nil => simp only [S_nil]; grind
  | cons a l ih => simp only [S_cons, ih]; grind
theorem S_mul {c : Rat} : S l (fun a => c * f a) = c * S l f := by
  induction l with
  | nil => simp only [S_nil]; grind
  | cons a l ih => simp only [S_cons, ih]; grind
theorem S_mulr {c : Rat} : S l (fun a => f a * c) = S l f * c := by
  induction l with
  | nil => simp only [S_nil]; grind
  | cons a l ih => simp only [S_cons, ih]; grind
theorem S_zero : S l (fun _ => 0) = 0 := by
  induction l with
  | nil => rfl
  | cons a l ih => rw [S_cons, ih]; grind
theorem S_zero' (h : ∀ a ∈ l, f a = 0) : S l f = 0 := by rw [S_congr h, S_zero]
theorem S_perm (h : l.Perm k) : S l f = S k f := by
  induction h with
  | nil => rfl
  | cons x _ ih => rw [S_cons, S_cons, ih]
  | swap x y l => simp only [S_cons]; grind
  | trans _ _ a b => rw [a, b]
theorem S_swap {m : List β} {F : α → β → Rat} : S l (fun a => S m (fun b => F a b)) = S m (fun b => S l (fun a => F a b)) := by
  induction l with
  | nil => simp only [S_nil, S_zero]
  | cons a l ih => simp only [S_cons, ih, S_add]
theorem S_nonneg (h : ∀ a ∈ l, 0 ≤ f a) : 0 ≤ S l f := by
  induction l with
  | nil => rw [S_nil]; grind
  | cons a l ih =>
    rw [S_cons]
    have h1 := h a (by simp)
    have h2 := ih fun b hb => h b (by simp [hb])
    grind
theorem S_pos0 (h : ∀ a ∈ l, 0 ≤ f a) (e : S l f = 0) : ∀ a ∈ l, f a = 0 := by
  induction l with
  | nil => intro a ha; simp at ha
  | cons b l ih =>
    rw [S_cons] at e
    have h1 := h b (by simp)
    have h2 : 0 ≤ S l f := S_nonneg fun c hc => h c (by simp [hc])
    have e1 : f b = 0 := by grind
    have e2 : S l f = 0 := by grind
    intro a ha
    rcases List.mem_cons.mp ha with q | q
    · rw [q]; exact e1
    · exact ih (fun c hc => h c (by simp [hc])) e2 a q
theorem S_le {a : α} (h : ∀ a ∈ l, 0 ≤ f a) (ha : a ∈ l) : f a ≤ S l f := by
  induction l with
  | nil => simp at ha
  | cons b l ih =>
    rw [S_cons]
    have h1 := h b (by simp)
    have h2 : 0 ≤ S l f := S_nonneg fun c hc => h c (by simp [hc])
    rcases List.mem_cons.mp ha with q | q
    · rw [q]; grind
    · have := ih (fun c hc => h c (by simp [hc])) q
      grind
end
theorem S_one {n i : Nat} {c : Nat → Rat} (hi : i < n) (h : ∀ j, j < n → j ≠ i → c j = 0) : S (List.range n) c = c i := by
  induction n with
  | zero => omega
  | succ n ih =>
    rw [List.range_succ, S_app, S_cons, S_nil]
    by_cases e : i = n
    · subst e
      rw [S_zero' fun j hj => h j (by have := List.mem_range.mp hj; omega) (by have := List.mem_range.mp hj; omega)]
      grind
    · rw [ih (by omega) fun j hj hji => h j (by omega) hji, h n (by omega) (fun q => e q.symm)]
      grind
theorem foldl_addS (xs : List Rat) (a : Rat) : xs.foldl (· + ·) a = a + S xs (fun x => x) := by
  induction xs generalizing a with
  | nil => rw [List.foldl_nil, S_nil]; grind
  | cons x xs ih => rw [List.foldl_cons, ih, S_cons]; grind
theorem sumR_S (xs : List Rat) : sumR xs = S xs (fun x => x) := by
  unfold sumR
  rw [foldl_addS]
  grind
theorem S_range {α : Type} [Inhabited α] (xs : List α) (f : α → Rat) : S xs f = S (List.range xs.length) (fun i => f xs[i]!) := by
  have e : xs = (List.range xs.length).map fun i => xs[i]! := by
    apply List.ext_getElem
    · simp
    · intro i h1 h2
      simp [h1]
  conv => lhs; rw [e]
  rw [S_map]
/-! ### symmetric flows -/
section
variable {m : Nat} {F : Nat → Nat → Rat}
/-- what flows out of i, less what flows in, x being the heights -/
def lap (m : Nat) (F : Nat → Nat → Rat) (x : Nat → Rat) (i : Nat) : Rat := S (List.range m) fun j => F i j * (x i - x j)
theorem lap_sym (h : ∀ i j, i < m → j < m → F i j = F j i) (x y : Nat → Rat) : S (List.range m) (fun i => lap m F y i * x i) = S (List.range m) (fun i => y i * lap m F x i) := by
  have e1 : S (List.range m) (fun i => lap m F y i * x i) = S (List.range m) (fun i => S (List.range m) fun j => F i j * y i * x i) - S (List.range m) (fun i => S (List.range m) fun j => F i j * y j * x i) := by
    rw [← S_sub]
    refine S_congr fun i hi => ?_
    unfold lap
    rw [← S_mulr, ← S_sub]
    exact S_congr fun j hj => by grind
  have e2 : S (List.range m) (fun i => y i * lap m F x i) = S (List.range m) (fun i => S (List.range m) fun j => F i j * y i * x i) - S (List.range m) (fun i => S (List.range m) fun j => F i j * y i * x j) := by
    rw [← S_sub]
    refine S_congr fun i hi => ?_
    unfold lap
    rw [← S_mul, ← S_sub]
    exact S_congr fun j hj => by grind
  rw [e1, e2]
  congr 1
  rw [S_swap]
  refine S_congr fun i hi => S_congr fun j hj => ?_
  rw [h j i (List.mem_range.mp hj) (List.mem_range.mp hi)]
theorem lap_energy (h : ∀ i j, i < m → j < m → F i j = F j i) (x : Nat → Rat) : 2 * S (List.range m) (fun i => x i * lap m F x i) = S (List.range m) (fun i => S (List.range m) fun j => F i j * ((x i - x j) * (x i - x j))) := by
  have e1 : S (List.range m) (fun i => x i * lap m F x i) = S (List.range m) (fun i => S (List.range m) fun j => F i j * (x i * (x i - x j))) := by
    refine S_congr fun i hi => ?_
    unfold lap
    rw [← S_mul]
    exact S_congr fun j hj => by grind
  have e2 : S (List.range m) (fun i => x i * lap m F x i) = S (List.range m) (fun i => S (List.range m) fun j => F i j * (x j * (x j - x i))) := by
    rw [e1, S_swap]
    refine S_congr fun i hi => S_congr fun j hj => ?_
    rw [h j i (List.mem_range.mp hj) (List.mem_range.mp hi)]
  have e3 : 2 * S (List.range m) (fun i => x i * lap m F x i) = S (List.range m) (fun i => S (List.range m) fun j => F i j * (x i * (x i - x j))) + S (List.range m) (fun i => S (List.range m) fun j => F i j * (x j * (x j - x i))) := by
    rw [← e1, ← e2]; grind
  rw [e3, ← S_add]
  refine S_congr fun i hi => ?_
  rw [← S_add]
  exact S_congr fun j hj => by grind
/-- in a graph that hangs together only what is level flows nowhere -/
theorem lap_const (h : ∀ i j, i < m → j < m → F i j = F j i) (hn : ∀ i j, i < m → j < m → 0 ≤ F i j) (c : ∀ T : Nat → Prop, T 0 → (∀ i j, T i → i < m → j < m → 0 < F i j → T j) → ∀ i, i < m → T i) {x : Nat → Rat} (hx : ∀ i, i < m → lap m F x i = 0) : ∀ i, i < m → x i = x 0 := by
  have e := lap_energy h x
  rw [S_zero' (f := fun i => x i * lap m F x i) fun i hi => by rw [hx i (List.mem_range.mp hi)]; grind] at e
  have sq : ∀ z : Rat, 0 ≤ z * z := fun z => by
    rcases Rat.le_total (a := 0) (b := z) with q | q
    · exact Rat.mul_nonneg q q
    · have : 0 ≤ -z := by grind
      have := Rat.mul_nonneg this this
      grind
  have p1 : ∀ i ∈ List.range m, 0 ≤ S (List.range m) fun j => F i j * ((x i - x j) * (x i - x j)) := fun i hi => S_nonneg fun j hj => Rat.mul_nonneg (hn i j (List.mem_range.mp hi) (List.mem_range.mp hj)) (sq _)
  have p2 := S_pos0 p1 (by rw [← e]; grind)
  refine c (fun i => x i = x 0) rfl fun i j hi him hjm hf => ?_
  have p3 := S_pos0 (f := fun j => F i j * ((x i - x j) * (x i - x j))) (fun j hj => Rat.mul_nonneg (hn i j him (List.mem_range.mp hj)) (sq _)) (p2 i (List.mem_range.mpr him)) j (List.mem_range.mpr hjm)
  have p4 : (x i - x j) * (x i - x j) = 0 := by
    have p5 : F i j * ((x i - x j) * (x i - x j)) = 0 := p3
    rcases Rat.mul_eq_zero.mp p5 with q | q
    · rw [q] at hf; exact absurd hf (Rat.lt_irrefl)
    · exact q
  have p6 : x i - x j = 0 := by
    rcases Rat.mul_eq_zero.mp p4 with q | q <;> exact q
  have : x i = x 0 := hi
  grind
/-- the sum of what is ahead times goals hangs on the goals alone -/
theorem lap_uniq (h : ∀ i j, i < m → j < m → F i j = F j i) {g k : Nat → Rat} {x x' y : Nat → Rat} (hx : ∀ i, i < m → lap m F x i = g i) (hx' : ∀ i, i < m → lap m F x' i = g i) (hy : ∀ i, i < m → lap m F y i = k i) : S (List.range m) (fun i => k i * x i) = S (List.range m) (fun i => k i * x' i) := by
  have e : ∀ z : Nat → Rat, (∀ i, i < m → lap m F z i = g i) → S (List.range m) (fun i => k i * z i) = S (List.range m) (fun i => y i * g i) := fun z hz => by
    have e1 := lap_sym h z y
    rw [← S_congr (f := fun i => lap m F y i * z i) (g := fun i => k i * z i) fun i hi => by rw [hy i (List.mem_range.mp hi)], e1]
    exact S_congr fun i hi => by rw [hz i (List.mem_range.mp hi)]
  rw [e x hx, e x' hx']
end
end Gw
/-! Plain: what the steps of INTEGER rows keep. -/
namespace Gw
def vv (r : List Int) (j : Nat) : Rat := ((r[j]! : Int) : Rat)
theorem vv_zero {r : List Int} {j : Nat} : vv r j = 0 ↔ r[j]! = 0 := by
  unfold vv
  exact Rat.intCast_eq_zero_iff
theorem vv_out {r : List Int} {j : Nat} (h : r.length ≤ j) : vv r j = 0 := by
  rw [vv_zero, getElem!_neg r j (by omega)]
  rfl
theorem vv_map {r : List Int} {f : Int → Int} (h0 : f 0 = 0) (j : Nat) : (r.map f)[j]! = f r[j]! := by
  by_cases h : j < r.length
  · rw [getElem!_pos _ j (by simpa using h), getElem!_pos _ j h, List.getElem_map]
  · rw [getElem!_neg _ j (by simpa using h), getElem!_neg _ j h]
    exact h0.symm
/-- the first place -/
theorem headOf_at {r : List Int} (h : headOf r < r.length) : vv r (headOf r) ≠ 0 ∧ ∀ j, j < headOf r → vv r j = 0 := by
  unfold headOf at h ⊢
  constructor
  · rw [Ne, vv_zero, getElem!_pos r _ h]
    have := List.findIdx_getElem (w := h)
    simpa using this
  · intro j hj
    rw [vv_zero, getElem!_pos r j (by omega)]
    have := List.not_of_lt_findIdx hj
    simpa using this
theorem vv_lt {r : List Int} {p : Nat} (h : vv r p ≠ 0) : p < r.length := by
  rcases Nat.lt_or_ge p r.length with q | q
  · exact q
  · exact absurd (vv_out q) h
theorem headOf_eq {r : List Int} {p : Nat} (h : vv r p ≠ 0) (h0 : ∀ j, j < p → vv r j = 0) : headOf r = p := by
  have hp := vv_lt h
  have hl : headOf r < r.length := by
    unfold headOf
    rw [List.findIdx_lt_length]
    refine ⟨r[p], List.getElem_mem hp, ?_⟩
    rw [Ne, vv_zero, getElem!_pos r p hp] at h
    simpa using h
  obtain ⟨a, b⟩ := headOf_at hl
  rcases Nat.lt_trichotomy (headOf r) p with q | q | q
  · exact absurd (h0 _ q) a
  · exact q
  · exact absurd (b _ q) h
/-! ### bare, headed, cleared rows -/
theorem gcdL_dvd {row : List Int} : ∀ x ∈ row, ((gcdL row : Nat) : Int) ∣ x := by
  have all : ∀ (row : List Int) (c : Nat), (row.foldl (fun c n => if n = 0 then c else Nat.gcd c n.natAbs) c) ∣ c ∧ ∀ x ∈ row, (row.foldl (fun c n => if n = 0 then c else Nat.gcd c n.natAbs) c) ∣ x.natAbs := by
    intro row
    induction row with
    | nil => intro c; exact ⟨Nat.dvd_refl c, fun x hx => by simp at hx⟩
    | cons y ys ih =>
      intro c
      rw [List.foldl_cons]
      have h := ih (if y = 0 then c else Nat.gcd c y.natAbs)
      refine ⟨Nat.dvd_trans h.1 ?_, fun x hx => ?_⟩
      · split
        · exact Nat.dvd_refl c
        · exact Nat.gcd_dvd_left _ _
      · rcases List.mem_cons.mp hx with q | q
        · subst q
          refine Nat.dvd_trans h.1 ?_
          split
          · rename_i e; rw [e]; simp
          · exact Nat.gcd_dvd_right _ _
        · exact h.2 x q
  intro x hx
  rw [← Int.dvd_natAbs]
  exact Int.natCast_dvd_natCast.mpr ((all row 0).2 x hx)
theorem bareR_spec (row : List Int) : ∃ g : Rat, g ≠ 0 ∧ ∀ j, vv (bareR row) j = g * vv row j := by
  unfold bareR
  split
  · rename_i h
    generalize hG : gcdL row = G at *
    have hz : ((G : Int) : Rat) ≠ 0 := by
      rw [Ne, Rat.intCast_eq_zero_iff]; omega
    refine ⟨(((G : Int) : Rat))⁻¹, fun q => by have := Rat.inv_mul_cancel _ hz; rw [q] at this; grind, fun j => ?_⟩
    unfold vv
    rw [vv_map (by simp)]
    by_cases hj : j < row.length
    · rw [getElem!_pos row j hj]
      have hd := gcdL_dvd (row := row) row[j] (List.getElem_mem hj)
      rw [hG] at hd
      obtain ⟨c, hc⟩ := hd
      rw [hc, Int.mul_fdiv_cancel_left _ (by omega), Rat.intCast_mul, ← Rat.mul_assoc, Rat.inv_mul_cancel _ hz, Rat.one_mul]
    · rw [getElem!_neg row j hj]
      simp
  · exact ⟨1, by decide, fun j => by grind⟩
theorem headedR_spec (row : List Int) (p : Nat) : ∃ g : Rat, g ≠ 0 ∧ ∀ j, vv (headedR row p) j = g * vv row j := by
  obtain ⟨g, hg, e⟩ := bareR_spec row
  unfold headedR
  split
  · exact ⟨g, hg, e⟩
  · refine ⟨-g, by grind, fun j => ?_⟩
    have : vv ((bareR row).map fun n => 0 - n) j = - vv (bareR row) j := by
      unfold vv
      rw [vv_map (by simp), Int.zero_sub, Rat.intCast_neg]
    rw [this, e]
    grind
theorem clearedR_spec {row head : List Int} {p : Nat} (hl : row.length = head.length) (hp : vv head p ≠ 0) : ∃ a b : Rat, a ≠ 0 ∧ (∀ j, vv (clearedR row head p) j = a * vv row j + b * vv head j) ∧ vv (clearedR row head p) p = 0 := by
  unfold clearedR
  split
  · rename_i h
    exact ⟨1, 0, by decide, fun j => by grind, vv_zero.mpr h⟩
  · obtain ⟨g, hg, e⟩ := bareR_spec ((row.zip head).map fun q => head[p]! * q.1 - row[p]! * q.2)
    have e2 : ∀ j, vv ((row.zip head).map fun q => head[p]! * q.1 - row[p]! * q.2) j = vv head p * vv row j - vv row p * vv head j := by
      intro j
      by_cases hj : j < row.length
      · have hj2 : j < head.length := by omega
        unfold vv
        rw [getElem!_pos _ j (by simp; omega), List.getElem_map, List.getElem_zip, getElem!_pos row j hj, getElem!_pos head j hj2, Rat.intCast_sub, Rat.intCast_mul, Rat.intCast_mul]
      · rw [vv_out (r := row) (j := j) (by omega), vv_out (r := head) (j := j) (by omega), vv_out (j := j) (by simp; omega)]
        grind
    refine ⟨g * vv head p, - (g * vv row p), ?_, fun j => ?_, ?_⟩
    · intro h
      rcases Rat.mul_eq_zero.mp h with q | q
      · exact hg q
      · exact hp q
    · rw [e, e2]; grind
    · rw [e, e2]; grind
/-! ### what the steps keep -/
def dot (M : Nat) (r : List Int) (z : Nat → Rat) : Rat := S (List.range M) fun j => vv r j * z j
theorem dot_lin {M : Nat} {r s h : List Int} {a b : Rat} (e : ∀ j, vv s j = a * vv r j + b * vv h j) (z : Nat → Rat) : dot M s z = a * dot M r z + b * dot M h z := by
  unfold dot
  rw [← S_mul, ← S_mul, ← S_add]
  exact S_congr fun j _ => by rw [e]; grind
/-- a row made of the given ones -/
def Comb (A : List (List Int)) (r : List Int) : Prop := ∃ c : Nat → Rat, ∀ j, vv r j = S (List.range A.length) fun i => c i * vv A[i]! j
theorem Comb.lin {A : List (List Int)} {r s h : List Int} {a b : Rat} (hr : Comb A r) (hh : Comb A h) (e : ∀ j, vv s j = a * vv r j + b * vv h j) : Comb A s := by
  obtain ⟨c, hc⟩ := hr
  obtain ⟨d, hd⟩ := hh
  refine ⟨fun i => a * c i + b * d i, fun j => ?_⟩
  rw [e, hc, hd, ← S_mul, ← S_mul, ← S_add]
  exact S_congr fun i _ => by grind
theorem Comb.self {A : List (List Int)} {r : List Int} (h : r ∈ A) : Comb A r := by
  obtain ⟨i, hi, e⟩ := List.mem_iff_getElem.mp h
  refine ⟨fun j => if j = i then 1 else 0, fun j => ?_⟩
  rw [S_one hi fun k _ hk => by show (if k = i then (1 : Rat) else 0) * _ = 0; rw [if_neg hk]; grind]
  show _ = (if i = i then (1 : Rat) else 0) * _
  rw [if_pos rfl, getElem!_pos A i hi, e]
  grind
structure Inv (A : List (List Int)) (M k : Nat) (s : St2) : Prop where
  len : ∀ r ∈ s.left ++ s.found, r.length = M
  zl : ∀ r ∈ s.left, ∀ j, j < k → vv r j = 0
  hd : ∀ r ∈ s.found, headOf r < k ∧ vv r (headOf r) ≠ 0
  pw : s.found.Pairwise fun r r' => vv r (headOf r') = 0 ∧ vv r' (headOf r) = 0
  cmb : ∀ r ∈ s.left ++ s.found, Comb A r
  ker : ∀ z : Nat → Rat, (∀ r ∈ s.left ++ s.found, dot M r z = 0) → ∀ r ∈ A, dot M r z = 0
theorem Inv.step {A : List (List Int)} {M k : Nat} {s : St2} (h : Inv A M k s) : Inv A M (k + 1) (stepI k s) := by
  unfold stepI
  split
  · rename_i i hi
    obtain ⟨hl, hne, _⟩ := findIdx_some hi
    have hm : s.left[i]! ∈ s.left := get_mem hl
    have hk0 : vv s.left[i]! k ≠ 0 := by
      rw [Ne, vv_zero, getElem!_pos s.left i hl]
      simpa using hne
    have sub : ∀ r ∈ s.left.take i ++ s.left.drop (i + 1), r ∈ s.left := fun r hr => by
      rcases List.mem_append.mp hr with q | q
      · exact List.mem_of_mem_take q
      · exact List.mem_of_mem_drop q
    have sup : ∀ r ∈ s.left, r = s.left[i]! ∨ r ∈ s.left.take i ++ s.left.drop (i + 1) := fun r hr => by
      have e : s.left = s.left.take i ++ s.left[i]! :: s.left.drop (i + 1) := by
        rw [getElem!_pos s.left i hl, List.getElem_cons_drop, List.take_append_drop]
      rw [e] at hr
      rcases List.mem_append.mp hr with q | q
      · exact .inr (List.mem_append_left _ q)
      · rcases List.mem_cons.mp q with q | q
        · exact .inl q
        · exact .inr (List.mem_append_right _ q)
    obtain ⟨g, hg, he⟩ := headedR_spec s.left[i]! k
    have hlen : (headedR s.left[i]! k).length = M := by rw [headedR_len]; exact h.len _ (List.mem_append_left _ hm)
    generalize headedR s.left[i]! k = H at *
    have hk : vv H k ≠ 0 := by
      rw [he]
      intro q
      rcases Rat.mul_eq_zero.mp q with q | q
      · exact hg q
      · exact hk0 q
    have hz : ∀ j, j < k → vv H j = 0 := fun j hj => by rw [he, h.zl _ hm j hj]; grind
    have hH : headOf H = k := headOf_eq hk hz
    have cH : Comb A H := (h.cmb _ (List.mem_append_left _ hm)).lin (a := g) (b := 0) (h.cmb _ (List.mem_append_left _ hm)) (fun j => by rw [he]; grind)
    have cl : ∀ r, r ∈ s.left ++ s.found → ∃ a b : Rat, a ≠ 0 ∧ (∀ j, vv (clearedR r H k) j = a * vv r j + b * vv H j) ∧ vv (clearedR r H k) k = 0 := fun r hr => clearedR_spec (by rw [hlen]; exact h.len r hr) hk
    have hho : ∀ r ∈ s.found, headOf (clearedR r H k) = headOf r := fun r hr => by
      obtain ⟨a, b, ha, e, _⟩ := cl r (List.mem_append_right _ hr)
      obtain ⟨h1, h2⟩ := h.hd r hr
      have hlr : headOf r < r.length := vv_lt h2
      refine headOf_eq ?_ fun j hj => ?_
      · rw [e, hz _ h1]
        intro q
        have : a * vv r (headOf r) = 0 := by grind
        rcases Rat.mul_eq_zero.mp this with q | q
        · exact ha q
        · exact h2 q
      · rw [e, hz j (by omega), (headOf_at hlr).2 j hj]
        grind
    refine ⟨fun r hr => ?_, fun r hr j hj => ?_, fun r hr => ?_, ?_, fun r hr => ?_, fun z hz0 => h.ker z ?_⟩
    · rcases List.mem_append.mp hr with q | q
      · obtain ⟨y, hy, rfl⟩ := List.mem_map.mp q
        have := h.len _ (List.mem_append_left _ (sub y hy))
        rw [clearedR_len (by omega)]; exact this
      · rcases List.mem_append.mp q with q | q
        · obtain ⟨y, hy, rfl⟩ := List.mem_map.mp q
          have := h.len _ (List.mem_append_right _ hy)
          rw [clearedR_len (by omega)]; exact this
        · rw [List.mem_singleton.mp q]; exact hlen
    · obtain ⟨y, hy, rfl⟩ := List.mem_map.mp hr
      obtain ⟨a, b, ha, e, e0⟩ := cl y (List.mem_append_left _ (sub y hy))
      by_cases q : j = k
      · rw [q]; exact e0
      · rw [e, hz j (by omega), h.zl y (sub y hy) j (by omega)]
        grind
    · rcases List.mem_append.mp hr with q | q
      · obtain ⟨y, hy, rfl⟩ := List.mem_map.mp q
        obtain ⟨a, b, ha, e, _⟩ := cl y (List.mem_append_right _ hy)
        obtain ⟨h1, h2⟩ := h.hd y hy
        rw [hho y hy]
        refine ⟨by omega, ?_⟩
        rw [e, hz _ h1]
        intro q
        have : a * vv y (headOf y) = 0 := by grind
        rcases Rat.mul_eq_zero.mp this with q | q
        · exact ha q
        · exact h2 q
      · rw [List.mem_singleton.mp q, hH]
        exact ⟨by omega, hk⟩
    · rw [List.pairwise_append]
      refine ⟨?_, List.pairwise_singleton _ _, fun x hx y hy => ?_⟩
      · rw [List.pairwise_map]
        refine h.pw.imp_of_mem fun {x y} hx hy hxy => ?_
        rw [hho x hx, hho y hy]
        obtain ⟨a, b, _, e, _⟩ := cl x (List.mem_append_right _ hx)
        obtain ⟨a', b', _, e', _⟩ := cl y (List.mem_append_right _ hy)
        rw [e, e', hz _ (h.hd x hx).1, hz _ (h.hd y hy).1, hxy.1, hxy.2]
        constructor <;> grind
      · rw [List.mem_singleton.mp hy, hH]
        obtain ⟨y0, hy0, rfl⟩ := List.mem_map.mp hx
        obtain ⟨a, b, _, _, e0⟩ := cl y0 (List.mem_append_right _ hy0)
        rw [hho y0 hy0]
        exact ⟨e0, hz _ (h.hd y0 hy0).1⟩
    · rcases List.mem_append.mp hr with q | q
      · obtain ⟨y, hy, rfl⟩ := List.mem_map.mp q
        obtain ⟨a, b, ha, e, e0⟩ := cl y (List.mem_append_left _ (sub y hy))
        exact (h.cmb y (List.mem_append_left _ (sub y hy))).lin cH e
      · rcases List.mem_append.mp q with q | q
        · obtain ⟨y, hy, rfl⟩ := List.mem_map.mp q
          obtain ⟨a, b, ha, e, e0⟩ := cl y (List.mem_append_right _ hy)
          exact (h.cmb y (List.mem_append_right _ hy)).lin cH e
        · rw [List.mem_singleton.mp q]; exact cH
    · have d0 : dot M H z = 0 := hz0 H (List.mem_append_right _ (List.mem_append_right _ (List.mem_singleton.mpr rfl)))
      have back : ∀ r, r ∈ s.left ++ s.found → dot M (clearedR r H k) z = 0 → dot M r z = 0 := fun r hr d1 => by
        obtain ⟨a, b, ha, e, _⟩ := cl r hr
        rw [dot_lin e, d0] at d1
        have : a * dot M r z = 0 := by grind
        rcases Rat.mul_eq_zero.mp this with q | q
        · exact absurd q ha
        · exact q
      intro r hr
      rcases List.mem_append.mp hr with q | q
      · rcases sup r q with q2 | q2
        · rw [q2]
          rw [dot_lin (r := s.left[i]!) (h := s.left[i]!) (a := g) (b := 0) (fun j => by rw [he]; grind)] at d0
          have : g * dot M s.left[i]! z = 0 := by grind
          rcases Rat.mul_eq_zero.mp this with q | q
          · exact absurd q hg
          · exact q
        · exact back r hr (hz0 _ (List.mem_append_left _ (List.mem_map.mpr ⟨r, q2, rfl⟩)))
      · exact back r hr (hz0 _ (List.mem_append_right _ (List.mem_append_left _ (List.mem_map.mpr ⟨r, q, rfl⟩))))
  · rename_i hi
    rw [List.findIdx?_eq_none_iff] at hi
    refine ⟨h.len, fun r hr j hj => ?_, fun r hr => ⟨by have := (h.hd r hr).1; omega, (h.hd r hr).2⟩, h.pw, h.cmb, h.ker⟩
    by_cases q : j = k
    · rw [q, vv_zero]
      simpa using hi r hr
    · exact h.zl r hr j (by omega)
theorem inv_steps {A : List (List Int)} {M : Nat} (hA : ∀ r ∈ A, r.length = M) : ∀ k, Inv A M k (stepsTo A k)
  | 0 => by
    have e : stepsTo A 0 = ⟨A, []⟩ := rfl
    rw [e]
    refine ⟨fun r hr => hA r (by simpa using hr), fun r _ j hj => by omega, fun r hr => by simp at hr, List.Pairwise.nil, fun r hr => Comb.self (by simpa using hr), fun z hz r hr => hz r (by simpa using hr)⟩
  | k + 1 => by
    rw [stepsTo_succ]
    exact (inv_steps hA k).step
theorem found_le (A : List (List Int)) : ∀ k, (stepsTo A k).found.length ≤ k
  | 0 => by simp [stepsTo]
  | k + 1 => by
    rw [stepsTo_succ]
    have := found_le A k
    unfold stepI
    split
    · simp; omega
    · omega
/-- from t places on nothing is left -/
def Dead (A : List (List Int)) (t : Nat) : Prop := ∀ r, Comb A r → (∀ j, j < t → vv r j = 0) → ∀ j, vv r j = 0
theorem steps_dead {A : List (List Int)} {M t : Nat} (hA : ∀ r ∈ A, r.length = M) (hd : Dead A t) : ∀ k, stepsTo A (t + k) = stepsTo A t
  | 0 => rfl
  | k + 1 => by
    rw [show t + (k + 1) = (t + k) + 1 by omega, stepsTo_succ, steps_dead hA hd k]
    have h := inv_steps hA t
    have e : (stepsTo A t).left.findIdx? (fun r => decide (r[t + k]! ≠ 0)) = none := by
      rw [List.findIdx?_eq_none_iff]
      intro r hr
      have := hd r (h.cmb r (List.mem_append_left _ hr)) (h.zl r hr) (t + k)
      rw [vv_zero] at this
      simpa using this
    unfold stepI
    rw [e]
/-- the steps at their end -/
structure Ended (A : List (List Int)) (M t : Nat) (fs : List (List Int)) : Prop where
  len : ∀ r ∈ fs, r.length = M
  hd : ∀ r ∈ fs, headOf r < t ∧ vv r (headOf r) ≠ 0
  pw : fs.Pairwise fun r r' => vv r (headOf r') = 0 ∧ vv r' (headOf r) = 0
  ker : ∀ z : Nat → Rat, (∀ r ∈ fs, dot M r z = 0) → ∀ r ∈ A, dot M r z = 0
  few : fs.length ≤ t
theorem ended {A : List (List Int)} {M t : Nat} (h0 : 0 < A.length) (hA : ∀ r ∈ A, r.length = M) (hd : Dead A t) (ht : t ≤ M) : int_stepsR A = (stepsTo A t).found ∧ Ended A M t (int_stepsR A) := by
  have w : wid A = M := by
    unfold wid
    rw [if_pos h0]
    exact hA _ (get_mem h0)
  have e : int_stepsR A = (stepsTo A t).found := by
    unfold int_stepsR
    rw [w, show M = t + (M - t) by omega, steps_dead hA hd]
  refine ⟨e, ?_⟩
  rw [e]
  have h := inv_steps hA t
  refine ⟨fun r hr => h.len r (List.mem_append_right _ hr), h.hd, h.pw, fun z hz => h.ker z fun r hr => ?_, found_le A t⟩
  rcases List.mem_append.mp hr with q | q
  · have := hd r (h.cmb r hr) (h.zl r q)
    exact S_zero' fun j _ => by rw [this]; grind
  · exact hz r q
end Gw
/-! Plain: what is ahead solves the flows' rows. -/
namespace Gw
theorem lcmD_pos (xs : List Rat) : 0 < lcmD xs := by
  have all : ∀ (xs : List Rat) (b : Nat), 0 < b → 0 < xs.foldl (fun b x => Nat.lcm b x.den) b := by
    intro xs
    induction xs with
    | nil => intro b h; exact h
    | cons x xs ih => intro b h; exact ih _ (Nat.lcm_pos h x.den_pos)
  exact all xs 1 (by omega)
theorem wholesL_vv (xs : List Rat) (j : Nat) : vv (wholesL xs) j = ((lcmD xs : Nat) : Rat) * xs[j]! := by
  by_cases h : j < xs.length
  · unfold vv wholesL
    rw [getElem!_pos _ j (by simpa using h), List.getElem_map, getElem!_pos xs j h]
    generalize hx : xs[j] = x
    obtain ⟨c, hc⟩ := den_dvd_lcmD (x := x) (xs := xs) (by rw [← hx]; exact List.getElem_mem h)
    have hd := x.den_pos
    rw [hc, Int.natCast_mul, Int.mul_fdiv_cancel_left _ (by omega), Rat.intCast_mul, Rat.natCast_mul]
    have e : ((x.den : Nat) : Rat) * x = ((x.num : Int) : Rat) := by
      have h1 : x = ((x.num : Int) : Rat) / ((x.den : Nat) : Rat) := by
        conv => lhs; rw [← q_self x, Rat.divInt_eq_div]
        rfl
      have h2 : ((x.den : Nat) : Rat) ≠ 0 := by
        rw [Ne, Rat.natCast_eq_zero_iff]; omega
      have key : ∀ a b : Rat, b ≠ 0 → x = a / b → b * x = a := fun a b hb e => by rw [e, Rat.mul_comm, Rat.div_mul_cancel hb]
      exact key _ _ h2 h1
    have e2 : (((c : Nat) : Int) : Rat) = ((c : Nat) : Rat) := rfl
    rw [e2, ← e]
    grind
  · rw [vv_out (by simp [wholesL]; omega), getElem!_neg xs j h]
    show 0 = _ * (0 : Rat)
    grind
theorem wholesL_len (xs : List Rat) : (wholesL xs).length = xs.length := by simp [wholesL]
/-- flows on a net, goals that add up to 0 -/
structure Net (flows goals : List (List Rat)) : Prop where
  m : 0 < flows.length
  rr : ∀ r ∈ flows, r.length = flows.length
  sym : ∀ i j, i < flows.length → j < flows.length → (flows[i]!)[j]! = (flows[j]!)[i]!
  nn : ∀ i j, i < flows.length → j < flows.length → 0 ≤ (flows[i]!)[j]!
  dg : ∀ i, i < flows.length → (flows[i]!)[i]! = 0
  c : Conn flows
  gr : ∀ g ∈ goals, g.length = flows.length
  g0 : ∀ g ∈ goals, sumR g = 0
def fF (flows : List (List Rat)) (i j : Nat) : Rat := (flows[i]!)[j]!
def lapA (flows goals : List (List Rat)) : List (List Int) := (lapRows flows goals).map wholesL
section
variable {flows goals : List (List Rat)}
theorem lapRows_len : (lapRows flows goals).length = flows.length := by simp [lapRows]
theorem lapA_len : (lapA flows goals).length = flows.length := by simp [lapA, lapRows]
theorem lapRow_len {f : List Rat} {i : Nat} : (lapRow f i goals).length = f.length + goals.length := by simp [lapRow]
theorem lapRows_at {i : Nat} (h : i < flows.length) : (lapRows flows goals)[i]! = lapRow flows[i]! i goals := by
  rw [getElem!_pos _ i (by rw [lapRows_len]; exact h), getElem!_pos flows i h]
  simp [lapRows]
theorem lapA_at {i : Nat} (h : i < flows.length) : (lapA flows goals)[i]! = wholesL (lapRow flows[i]! i goals) := by
  rw [getElem!_pos _ i (by rw [lapA_len]; exact h)]
  unfold lapA
  rw [List.getElem_map]
  rw [← lapRows_at (goals := goals) h, getElem!_pos]
theorem Net.row (h : Net flows goals) {i : Nat} (hi : i < flows.length) : (flows[i]!).length = flows.length := h.rr _ (get_mem hi)
theorem Net.lapA_row (h : Net flows goals) : ∀ r ∈ lapA flows goals, r.length = flows.length + goals.length := by
  intro r hr
  obtain ⟨i, hi, rfl⟩ := List.mem_iff_getElem.mp hr
  rw [lapA_len] at hi
  rw [← getElem!_pos (lapA flows goals) i (by rw [lapA_len]; exact hi), lapA_at hi, wholesL_len, lapRow_len, h.row hi]
/-- a row's entries -/
theorem lapRow_lo {f : List Rat} {i j : Nat} (hj : j < f.length) : (lapRow f i goals)[j]! = if j = i then sumR f else 0 - f[j]! := by
  unfold lapRow
  rw [getElem!_pos _ j (by simp; omega), List.getElem_append_left (by simpa using hj), List.getElem_set]
  split
  · rename_i e; rw [if_pos e.symm]
  · rename_i e
    rw [if_neg (fun q => e q.symm), List.getElem_map, getElem!_pos f j hj]
theorem lapRow_hi {f : List Rat} {i k : Nat} (hk : k < goals.length) : (lapRow f i goals)[f.length + k]! = (goals[k]!)[i]! := by
  unfold lapRow
  rw [getElem!_pos _ _ (by simp; omega), List.getElem_append_right (by simp), List.getElem_map, getElem!_pos goals k hk]
  simp
theorem Net.sumF (h : Net flows goals) {i : Nat} (hi : i < flows.length) : sumR flows[i]! = S (List.range flows.length) (fun j => fF flows i j) := by
  rw [sumR_S, S_range, h.row hi]
  rfl
theorem Net.symF (h : Net flows goals) : ∀ i j, i < flows.length → j < flows.length → fF flows i j = fF flows j i := h.sym
/-- a mix of the rows: what stands in it -/
theorem Net.mix (h : Net flows goals) (c : Nat → Rat) {j : Nat} (hj : j < flows.length) : S (List.range flows.length) (fun i => c i * (lapRow flows[i]! i goals)[j]!) = lap flows.length (fF flows) c j := by
  have e1 : S (List.range flows.length) (fun i => c i * (lapRow flows[i]! i goals)[j]!) = S (List.range flows.length) (fun i => if i = j then c j * sumR flows[j]! else 0) - S (List.range flows.length) (fun i => c i * fF flows i j) := by
    rw [← S_sub]
    refine S_congr fun i hi => ?_
    have hi := List.mem_range.mp hi
    rw [lapRow_lo (by rw [h.row hi]; exact hj)]
    by_cases e : i = j
    · subst e
      rw [if_pos rfl, if_pos rfl]
      have : fF flows i i = 0 := h.dg i hi
      rw [this]; grind
    · rw [if_neg (fun q => e q.symm), if_neg e]
      show c i * (0 - fF flows i j) = _
      grind
  rw [e1, S_one (i := j) hj fun k _ hk => if_neg hk, if_pos rfl, h.sumF hj]
  unfold lap
  rw [← S_mul, ← S_sub]
  refine S_congr fun i hi => ?_
  rw [h.symF i j (List.mem_range.mp hi) hj]
  grind
theorem lap_sum {m : Nat} {F : Nat → Nat → Rat} (h : ∀ i j, i < m → j < m → F i j = F j i) (x : Nat → Rat) : S (List.range m) (fun i => lap m F x i) = 0 := by
  have e := lap_sym h (fun _ => 1) x
  rw [S_congr (g := fun i => lap m F x i) (fun i _ => by grind)] at e
  rw [e]
  refine S_zero' fun i _ => ?_
  have : lap m F (fun _ => 1) i = 0 := S_zero' fun j _ => by grind
  rw [this]; grind
theorem Net.dead (h : Net flows goals) : Dead (lapA flows goals) (flows.length - 1) := by
  intro r ⟨c, hc⟩ hz
  rw [lapA_len] at hc
  have hm := h.m
  have e : ∀ j, vv r j = S (List.range flows.length) fun i => (c i * ((lcmD (lapRow flows[i]! i goals) : Nat) : Rat)) * (lapRow flows[i]! i goals)[j]! := fun j => by
    rw [hc]
    refine S_congr fun i hi => ?_
    rw [lapA_at (List.mem_range.mp hi), wholesL_vv]
    grind
  generalize (fun i => c i * ((lcmD (lapRow flows[i]! i goals) : Nat) : Rat)) = d at e
  clear hc
  generalize hd : (fun i => c i * ((lcmD (lapRow flows[i]! i goals) : Nat) : Rat)) = d at *
  have e : ∀ j, vv r j = S (List.range flows.length) fun i => d i * (lapRow flows[i]! i goals)[j]! := fun j => by
    rw [e, ← hd]
  have lo : ∀ j, j < flows.length → vv r j = lap flows.length (fF flows) d j := fun j hj => by rw [e, h.mix d hj]
  have last : vv r (flows.length - 1) = 0 := by
    have s := lap_sum h.symF d
    rw [S_one (i := flows.length - 1) (by omega) fun j hj hne => by rw [← lo j hj, hz j (by omega)], ← lo _ (by omega)] at s
    exact s
  have l0 : ∀ j, j < flows.length → lap flows.length (fF flows) d j = 0 := fun j hj => by
    rw [← lo j hj]
    by_cases q : j = flows.length - 1
    · rw [q]; exact last
    · exact hz j (by omega)
  have cst := lap_const h.symF h.nn h.c l0
  intro j
  by_cases q : j < flows.length
  · rw [lo j q, l0 j q]
  · rw [e]
    by_cases q2 : j - flows.length < goals.length
    · have hg := h.g0 _ (get_mem q2)
      rw [sumR_S, S_range, h.gr _ (get_mem q2)] at hg
      rw [S_congr (g := fun i => d 0 * (goals[j - flows.length]!)[i]!), S_mul, hg]
      · grind
      · intro i hi
        have hi := List.mem_range.mp hi
        have := lapRow_hi (f := flows[i]!) (i := i) q2
        rw [h.row hi, show flows.length + (j - flows.length) = j by omega] at this
        rw [this, cst i hi]
    · refine S_zero' fun i hi => ?_
      have hi := List.mem_range.mp hi
      rw [getElem!_neg _ j (by rw [lapRow_len, h.row hi]; omega)]
      show d i * (0 : Rat) = 0
      grind
theorem Net.ended (h : Net flows goals) : int_stepsR (lapA flows goals) = (stepsTo (lapA flows goals) (flows.length - 1)).found ∧ Ended (lapA flows goals) (flows.length + goals.length) (flows.length - 1) (int_stepsR (lapA flows goals)) := Gw.ended (by rw [lapA_len]; exact h.m) h.lapA_row h.dead (by omega)
end
/-! ### the told rows -/
theorem told_len (r : List Int) : (told_rowR r).length = r.length := by simp [told_rowR]
theorem told_at {r : List Int} (j : Nat) : (told_rowR r)[j]! = vv r j / vv r (headOf r) := by
  by_cases h : j < r.length
  · unfold told_rowR
    rw [getElem!_pos _ j (by simpa using h), List.getElem_map, Rat.divInt_eq_div]
    unfold vv
    rw [getElem!_pos r j h]
  · rw [getElem!_neg _ j (by rw [told_len]; exact h), vv_out (by omega)]
    show (0 : Rat) = _
    rw [Rat.div_def, Rat.zero_mul]
theorem told_head {r : List Int} (h : vv r (headOf r) ≠ 0) : headQ (told_rowR r) = headOf r := by
  have h2 : r[headOf r]! ≠ 0 := fun q => h (vv_zero.mpr q)
  generalize hd : r[headOf r]! = d at h2
  have e : (told_rowR r).map (fun q => q.num) = r.map fun n => (Rat.divInt n d).num := by
    unfold told_rowR
    rw [List.map_map, hd]
    rfl
  unfold headQ
  rw [e]
  unfold headOf
  rw [List.findIdx_map]
  congr 1
  funext n
  simp only [Function.comp]
  rw [decide_eq_decide]
  rw [Ne, Ne, Rat.num_eq_zero]
  refine not_congr ⟨fun q => ?_, fun q => by rw [q, Rat.zero_divInt]⟩
  rw [Rat.divInt_eq_div, Rat.div_def] at q
  have hz : ((d : Int) : Rat) ≠ 0 := by rw [Ne, Rat.intCast_eq_zero_iff]; exact h2
  rcases Rat.mul_eq_zero.mp q with q | q
  · exact Rat.intCast_eq_zero_iff.mp q
  · exfalso
    have := Rat.inv_mul_cancel _ hz
    rw [q] at this
    grind
theorem fold_set {n k : Nat} : ∀ {rows : List (List Rat)} {l : List Rat}, rows.Pairwise (fun r r' => headQ r ≠ headQ r') → (∀ r ∈ rows, headQ r < l.length) →
    (∀ r ∈ rows, (rows.foldl (fun l row => l.set (headQ row) (row[n + k]!)) l)[headQ r]! = r[n + k]!) ∧ ∀ j, (∀ r ∈ rows, headQ r ≠ j) → (rows.foldl (fun l row => l.set (headQ row) (row[n + k]!)) l)[j]! = l[j]!
  | [], l, _, _ => ⟨fun r hr => by simp at hr, fun j _ => rfl⟩
  | r :: rs, l, hp, hl => by
    rw [List.pairwise_cons] at hp
    obtain ⟨i1, i2⟩ := fold_set (n := n) (k := k) (rows := rs) (l := l.set (headQ r) (r[n + k]!)) hp.2 (fun q hq => by rw [List.length_set]; exact hl q (by simp [hq]))
    refine ⟨fun q hq => ?_, fun j hj => ?_⟩
    · rw [List.foldl_cons]
      rcases List.mem_cons.mp hq with e | e
      · subst e
        rw [i2 _ fun q' hq' => (hp.1 q' hq').symm]
        have := hl q (by simp)
        rw [getElem!_pos _ _ (by rw [List.length_set]; exact this)]
        simp
      · exact i1 q e
    · rw [List.foldl_cons, i2 j fun q hq => hj q (by simp [hq])]
      by_cases q : j < l.length
      · rw [getElem!_pos _ j (by rw [List.length_set]; exact q), getElem!_pos l j q, List.getElem_set_ne (hj r (by simp))]
      · rw [getElem!_neg _ j (by rw [List.length_set]; exact q), getElem!_neg l j q]
theorem pw_mem {α : Type} {R : α → α → Prop} (sy : ∀ x y, R x y → R y x) {l : List α} (h : l.Pairwise R) {a b : α} (ha : a ∈ l) (hb : b ∈ l) (hab : a ≠ b) : R a b := by
  induction h with
  | nil => simp at ha
  | cons h1 _ ih =>
    rcases List.mem_cons.mp ha with q | q
    · rcases List.mem_cons.mp hb with p | p
      · exact absurd (q.trans p.symm) hab
      · rw [q]; exact h1 b p
    · rcases List.mem_cons.mp hb with p | p
      · rw [p]; exact sy _ _ (h1 a q)
      · exact ih q p
theorem S_split {f : Nat → Rat} {m : Nat} : ∀ n, S (List.range (m + n)) f = S (List.range m) f + S (List.range n) (fun k => f (m + k))
  | 0 => by rw [Nat.add_zero, List.range_zero, S_nil]; grind
  | n + 1 => by
    rw [← Nat.add_assoc, List.range_succ, List.range_succ, S_app, S_app, S_split n, S_cons, S_cons, S_nil, S_nil]
    grind
section
variable {flows goals : List (List Rat)}
/-- what is ahead solves -/
theorem Net.solves (h : Net flows goals) {k : Nat} (hk : k < goals.length) {i : Nat} (hi : i < flows.length) : lap flows.length (fF flows) (fun j => ((aheadsR flows goals)[k]!)[j]!) i = (goals[k]!)[i]! := by
  obtain ⟨_, E⟩ := h.ended
  have hx : (aheadsR flows goals)[k]! = ((int_stepsR (lapA flows goals)).map told_rowR).foldl (fun l row => l.set (headQ row) (row[flows.length + k]!)) (List.replicate flows.length 0) := by
    unfold aheadsR
    rw [getElem!_pos _ k (by simpa using hk), List.getElem_map, List.getElem_range]
    rfl
  rw [hx]
  clear hx
  have hn : ∀ r ∈ int_stepsR (lapA flows goals), vv r (headOf r) ≠ 0 := fun r hr => (E.hd r hr).2
  have pw : ((int_stepsR (lapA flows goals)).map told_rowR).Pairwise fun r r' => headQ r ≠ headQ r' := by
    rw [List.pairwise_map]
    refine E.pw.imp_of_mem fun {a b} ha hb hab => ?_
    rw [told_head (hn a ha), told_head (hn b hb)]
    intro q
    rw [q] at hab
    exact hn b hb hab.2 |>.elim
  have hl : ∀ r ∈ (int_stepsR (lapA flows goals)).map told_rowR, headQ r < (List.replicate flows.length (0 : Rat)).length := fun r hr => by
    obtain ⟨y, hy, rfl⟩ := List.mem_map.mp hr
    rw [told_head (hn y hy), List.length_replicate]
    have := (E.hd y hy).1
    omega
  obtain ⟨f1, f2⟩ := fold_set (n := flows.length) (k := k) pw hl
  generalize hX : ((int_stepsR (lapA flows goals)).map told_rowR).foldl (fun l row => l.set (headQ row) (row[flows.length + k]!)) (List.replicate flows.length 0) = X at *
  have xh : ∀ r ∈ int_stepsR (lapA flows goals), X[headOf r]! = vv r (flows.length + k) / vv r (headOf r) := fun r hr => by
    have := f1 _ (List.mem_map.mpr ⟨r, hr, rfl⟩)
    rw [told_head (hn r hr), told_at] at this
    exact this
  have x0 : ∀ j, j < flows.length → (∀ r ∈ int_stepsR (lapA flows goals), headOf r ≠ j) → X[j]! = 0 := fun j hj hr => by
    rw [f2 j fun r hr2 => by
      obtain ⟨y, hy, rfl⟩ := List.mem_map.mp hr2
      rw [told_head (hn y hy)]
      exact hr y hy, getElem!_pos _ j (by simpa using hj), List.getElem_replicate]
  have z := E.ker (fun j => if j < flows.length then X[j]! else if j = flows.length + k then -1 else 0) (fun r hr => by
    unfold dot
    rw [S_split, S_one (i := headOf r) (by have := (E.hd r hr).1; omega), S_one (i := k) hk]
    · dsimp only
      rw [if_pos (by have := (E.hd r hr).1; omega), if_neg (by omega), if_pos rfl, xh r hr]
      rw [Rat.mul_comm (vv r (headOf r)), Rat.div_mul_cancel (hn r hr)]
      grind
    · intro j hj hne
      show vv r (flows.length + j) * (if flows.length + j < flows.length then _ else if flows.length + j = flows.length + k then _ else _) = 0
      rw [if_neg (by omega), if_neg (by omega)]
      grind
    · intro j hj hne
      show vv r j * (if j < flows.length then _ else _) = 0
      rw [if_pos hj]
      by_cases q : ∃ r' ∈ int_stepsR (lapA flows goals), headOf r' = j
      · obtain ⟨r', hr', e⟩ := q
        have : vv r j = 0 := by
          rw [← e]
          have pw' : ∀ a ∈ int_stepsR (lapA flows goals), ∀ b ∈ int_stepsR (lapA flows goals), a ≠ b → vv a (headOf b) = 0 := by
            intro a ha b hb hab
            exact (pw_mem (fun x y q => ⟨q.2, q.1⟩) E.pw ha hb hab).1
          refine pw' r hr r' hr' fun q => ?_
          subst q
          exact hne e.symm
        rw [this]; grind
      · rw [x0 j hj fun r' hr' e => q ⟨r', hr', e⟩]; grind) ((lapA flows goals)[i]!) (get_mem (by rw [lapA_len]; exact hi))
  unfold dot at z
  rw [lapA_at hi] at z
  have z2 : ((lcmD (lapRow flows[i]! i goals) : Nat) : Rat) * S (List.range (flows.length + goals.length)) (fun j => (lapRow flows[i]! i goals)[j]! * (if j < flows.length then X[j]! else if j = flows.length + k then -1 else 0)) = 0 := by
    rw [← S_mul, ← z]
    refine S_congr fun j _ => ?_
    rw [wholesL_vv]; grind
  have z3 : S (List.range (flows.length + goals.length)) (fun j => (lapRow flows[i]! i goals)[j]! * (if j < flows.length then X[j]! else if j = flows.length + k then -1 else 0)) = 0 := by
    rcases Rat.mul_eq_zero.mp z2 with q | q
    · have := lcmD_pos (lapRow flows[i]! i goals)
      rw [Rat.natCast_eq_zero_iff] at q
      omega
    · exact q
  rw [S_split, S_one (i := k) hk] at z3
  · have hh := lapRow_hi (f := flows[i]!) (i := i) hk
    rw [h.row hi] at hh
    rw [hh, if_neg (by omega), if_pos rfl] at z3
    have e1 : S (List.range flows.length) (fun j => (lapRow flows[i]! i goals)[j]! * (if j < flows.length then X[j]! else if j = flows.length + k then -1 else 0)) = lap flows.length (fF flows) (fun j => X[j]!) i := by
      have e2 : S (List.range flows.length) (fun j => (lapRow flows[i]! i goals)[j]! * (if j < flows.length then X[j]! else if j = flows.length + k then -1 else 0)) = S (List.range flows.length) (fun j => if j = i then sumR flows[i]! * X[i]! else 0) - S (List.range flows.length) (fun j => fF flows i j * X[j]!) := by
        rw [← S_sub]
        refine S_congr fun j hj => ?_
        have hj := List.mem_range.mp hj
        rw [if_pos hj, lapRow_lo (by rw [h.row hi]; exact hj)]
        by_cases e : j = i
        · subst e
          rw [if_pos rfl, if_pos rfl]
          have : fF flows j j = 0 := h.dg j hi
          rw [this]; grind
        · rw [if_neg e, if_neg e]
          show (0 - fF flows i j) * _ = _
          grind
      rw [e2, S_one (i := i) hi fun k _ hk => if_neg hk, if_pos rfl, h.sumF hi]
      unfold lap
      rw [← S_mulr, ← S_sub]
      exact S_congr fun j _ => by grind
    rw [e1] at z3
    grind
  · intro j hj hne
    show _ * (if flows.length + j < flows.length then _ else if flows.length + j = flows.length + k then _ else _) = 0
    rw [if_neg (by omega), if_neg (by omega)]
    grind
end
end Gw
/-! Plain: the table by sums; told in another sequence, by another measure, it is the same. -/
namespace Gw
theorem flowR_sym (rows : List (List Rat)) (ws : List Rat) (a b : St3) : flowR rows ws a b = flowR rows ws b a := by
  unfold flowR
  generalize hereR rows ws a b = x
  generalize hereR rows ws b a = y
  split <;> split <;> grind
/-- what a goal is at a standing -/
def gf (ws : List Rat) (p : Nat) (one : St3) : Rat := ws[one.1]! * one.2.1 * one.2.2 * ((if one.1 = p then (1 : Rat) else 0) - (sharesR ws)[p]!)
theorem goalsR_at {ws : List Rat} {ss : List St3} {p : Nat} (hp : p < ws.length) : (goalsR ws ss)[p]! = ss.map (gf ws p) := by
  have hp2 : p < (sharesR ws).length := by rw [sharesR_len]; exact hp
  rw [getElem!_pos _ p (by rw [goalsR_len]; exact hp)]
  unfold goalsR
  rw [List.getElem_map, List.getElem_zipIdx]
  unfold goalOf gf
  rw [getElem!_pos _ p hp2]
  simp
theorem goalsR_at2 {ws : List Rat} {ss : List St3} {p i : Nat} (hp : p < ws.length) (hi : i < ss.length) : ((goalsR ws ss)[p]!)[i]! = gf ws p ss[i]! := by
  rw [goalsR_at hp, getElem!_pos _ i (by simpa using hi), List.getElem_map, getElem!_pos ss i hi]
theorem flowsR_at {rows : List (List Rat)} {ws : List Rat} {ss : List St3} {i j : Nat} (hi : i < ss.length) (hj : j < ss.length) : fF (flowsR rows ws ss) i j = if i = j then 0 else flowR rows ws ss[i]! ss[j]! := by
  unfold fF
  rw [getElem!_pos ss i hi, getElem!_pos ss j hj]
  have l1 : (flowsR rows ws ss).length = ss.length := flowsR_len rows ws ss
  rw [getElem!_pos (flowsR rows ws ss) i (by omega)]
  have l2 : ((flowsR rows ws ss)[i]'(by omega)).length = ss.length := by
    rw [flowsR_row _ (List.getElem_mem _), l1]
  rw [getElem!_pos _ j (by omega)]
  simp [flowsR]
theorem aheadOf_len {n k : Nat} {rows : List (List Rat)} : (aheadOf n rows k).length = n := by
  unfold aheadOf
  rw [foldl_set_len, List.length_replicate]
theorem aheadsR_at {flows goals : List (List Rat)} {k : Nat} (hk : k < goals.length) : ((aheadsR flows goals)[k]!).length = flows.length := by
  rw [getElem!_pos _ k (by rw [aheadsR_len]; exact hk)]
  unfold aheadsR
  rw [List.getElem_map, aheadOf_len]
theorem zip_sum {xs ys : List Rat} (h : ys.length = xs.length) : sumR ((xs.zip ys).map fun q => q.1 * q.2) = S (List.range xs.length) (fun i => xs[i]! * ys[i]!) := by
  rw [sumR_S, S_map, S_range, List.length_zip, h, Nat.min_self]
  refine S_congr fun i hi => ?_
  have hi := List.mem_range.mp hi
  rw [getElem!_pos _ i (by rw [List.length_zip]; omega), List.getElem_zip, getElem!_pos xs i hi, getElem!_pos ys i (by omega)]
/-- a list of values told beside a list that is put in another sequence -/
theorem perm_map {α β : Type} {f : α → β} {xs ys : List β} (h : xs.Perm ys) : ∀ l : List α, l.map f = xs → ∃ l' : List α, l'.Perm l ∧ l'.map f = ys := by
  induction h with
  | nil => intro l e; exact ⟨l, .refl l, e⟩
  | cons x _ ih =>
    intro l e
    cases l with
    | nil => simp at e
    | cons a l =>
      rw [List.map_cons, List.cons.injEq] at e
      obtain ⟨l', p, q⟩ := ih l e.2
      exact ⟨a :: l', p.cons a, by rw [List.map_cons, e.1, q]⟩
  | swap x y l =>
    intro k e
    match k, e with
    | a :: b :: k, e =>
      simp only [List.map_cons, List.cons.injEq] at e
      exact ⟨b :: a :: k, List.Perm.swap _ _ _, by rw [List.map_cons, List.map_cons, e.1, e.2.1, e.2.2]⟩
  | trans _ _ ih1 ih2 =>
    intro l e
    obtain ⟨l1, p1, q1⟩ := ih1 l e
    obtain ⟨l2, p2, q2⟩ := ih2 l1 q1
    exact ⟨l2, p2.trans p1, q2⟩
section
variable {rows : List (List Rat)} {ws : List Rat} {ss : List St3}
/-- a solution, as a list of standings with worths -/
def SolL (f : St3 → St3 → Rat) (g : St3 → Rat) (z : List (St3 × Rat)) : Prop := ∀ e ∈ z, S z (fun d => f e.1 d.1 * (e.2 - d.2)) = g e.1
theorem SolL.perm {f : St3 → St3 → Rat} {g : St3 → Rat} {z z' : List (St3 × Rat)} (h : SolL f g z) (p : z'.Perm z) : SolL f g z' := fun e he => by
  rw [S_perm p]
  exact h e (p.mem_iff.mp he)
theorem lap_list {x : Nat → Rat} {i : Nat} (hi : i < ss.length) : lap ss.length (fF (flowsR rows ws ss)) x i = S (List.range ss.length) fun j => flowR rows ws ss[i]! ss[j]! * (x i - x j) := by
  unfold lap
  refine S_congr fun j hj => ?_
  rw [flowsR_at hi (List.mem_range.mp hj)]
  split
  · rename_i e; subst e; grind
  · rfl
/-- the same walk told otherwise -/
structure Same (rows rows' : List (List Rat)) (ws ws' : List Rat) (ss ss' : List St3) (o : Nat → Nat) (φ : St3 → St3) (c : Rat) : Prop where
  N : Net (flowsR rows ws ss) (goalsR ws ss)
  N' : Net (flowsR rows' ws' ss') (goalsR ws' ss')
  wl : ws'.length = ws.length
  c0 : c ≠ 0
  ph : (ss'.map φ).Perm ss
  hf : ∀ a ∈ ss', ∀ b ∈ ss', flowR rows' ws' a b = c * flowR rows ws (φ a) (φ b)
  hg : ∀ p, p < ws.length → ∀ a ∈ ss', gf ws' p a = c * gf ws (o p) (φ a)
  hW : sumR ws' = c * sumR ws
  hs : ∀ p, p < ws.length → (sharesR ws')[p]! = (sharesR ws)[o p]!
  lt : ∀ p, p < ws.length → o p < ws.length
  inj : ∀ p q, p < ws.length → q < ws.length → (p = q ↔ o p = o q)
theorem mul_cancel {a b c : Rat} (h : c ≠ 0) (e : c * a = c * b) : a = b := by
  have : c * (a - b) = 0 := by grind
  rcases Rat.mul_eq_zero.mp this with q | q
  · exact absurd q h
  · grind
theorem Same.both {rows' : List (List Rat)} {ws' : List Rat} {ss' : List St3} {o : Nat → Nat} {φ : St3 → St3} {c : Rat} (h : Same rows rows' ws ws' ss ss' o φ c) {p q : Nat} (hp : p < ws.length) (hq : q < ws.length) :
    bothR ws' (goalsR ws' ss')[p]! (aheadsR (flowsR rows' ws' ss') (goalsR ws' ss'))[q]! = bothR ws (goalsR ws ss)[o p]! (aheadsR (flowsR rows ws ss) (goalsR ws ss))[o q]! := by
  have hm : ss'.length = ss.length := by rw [← h.ph.length_eq, List.length_map]
  have gl : (goalsR ws ss).length = ws.length := goalsR_len ws ss
  have gl' : (goalsR ws' ss').length = ws.length := by rw [goalsR_len, h.wl]
  have hp' := h.lt p hp
  have hq' := h.lt q hq
  unfold bothR
  rw [zip_sum, zip_sum, goalsR_at hp', goalsR_at (h.wl ▸ hp), List.length_map, List.length_map]
  · generalize hx' : (fun i : Nat => ((aheadsR (flowsR rows' ws' ss') (goalsR ws' ss'))[q]!)[i]!) = x'
    generalize hx : (fun i : Nat => ((aheadsR (flowsR rows ws ss) (goalsR ws ss))[o q]!)[i]!) = x
    have e1 : S (List.range ss'.length) (fun i => (ss'.map (gf ws' p))[i]! * ((aheadsR (flowsR rows' ws' ss') (goalsR ws' ss'))[q]!)[i]!) = S (List.range ss'.length) (fun i => gf ws' p ss'[i]! * x' i) := by
      refine S_congr fun i hi => ?_
      have hi := List.mem_range.mp hi
      rw [← hx', getElem!_pos _ i (by simpa using hi), List.getElem_map, getElem!_pos ss' i hi]
    have e2 : S (List.range ss.length) (fun i => (ss.map (gf ws (o p)))[i]! * ((aheadsR (flowsR rows ws ss) (goalsR ws ss))[o q]!)[i]!) = S (List.range ss.length) (fun i => gf ws (o p) ss[i]! * x i) := by
      refine S_congr fun i hi => ?_
      have hi := List.mem_range.mp hi
      rw [← hx, getElem!_pos _ i (by simpa using hi), List.getElem_map, getElem!_pos ss i hi]
    rw [e1, e2]
    have sx : ∀ i, i < ss.length → lap ss.length (fF (flowsR rows ws ss)) x i = gf ws (o q) ss[i]! := fun i hi => by
      have := h.N.solves (k := o q) (by rw [gl]; exact hq') (i := i) (by rw [flowsR_len]; exact hi)
      rw [flowsR_len, hx, goalsR_at2 hq' hi] at this
      exact this
    have sy : ∀ i, i < ss.length → lap ss.length (fF (flowsR rows ws ss)) (fun i => ((aheadsR (flowsR rows ws ss) (goalsR ws ss))[o p]!)[i]!) i = gf ws (o p) ss[i]! := fun i hi => by
      have := h.N.solves (k := o p) (by rw [gl]; exact hp') (i := i) (by rw [flowsR_len]; exact hi)
      rw [flowsR_len, goalsR_at2 hp' hi] at this
      exact this
    have sx' : ∀ i, i < ss'.length → lap ss'.length (fF (flowsR rows' ws' ss')) x' i = gf ws' q ss'[i]! := fun i hi => by
      have := h.N'.solves (k := q) (by rw [gl']; exact hq) (i := i) (by rw [flowsR_len]; exact hi)
      rw [flowsR_len, hx', goalsR_at2 (h.wl ▸ hq) hi] at this
      exact this
    let z' : List (St3 × Rat) := (List.range ss'.length).map fun i => (φ ss'[i]!, x' i)
    have hz' : SolL (flowR rows ws) (gf ws (o q)) z' := by
      intro e he
      obtain ⟨i, hi, rfl⟩ := List.mem_map.mp he
      have hi := List.mem_range.mp hi
      refine mul_cancel h.c0 ?_
      rw [← h.hg q hq _ (get_mem hi), ← sx' i hi, lap_list hi, S_map, ← S_mul]
      refine S_congr fun j hj => ?_
      rw [h.hf _ (get_mem hi) _ (get_mem (List.mem_range.mp hj))]
      grind
    have hz1 : z'.map (fun e => e.1) = ss'.map φ := by
      apply List.ext_getElem
      · simp [z']
      · intro i h1 h2
        simp only [List.length_map] at h2
        simp [z', h2]
    obtain ⟨z, pz, ez⟩ := perm_map h.ph z' hz1
    have hz := hz'.perm pz
    have lz : z.length = ss.length := by rw [← ez, List.length_map]
    have zi : ∀ i, i < ss.length → (z[i]!).1 = ss[i]! := fun i hi => by
      rw [getElem!_pos z i (by omega), getElem!_pos ss i hi]
      have : (z.map fun e => e.1)[i]'(by simp; omega) = ss[i] := by simp only [ez]
      rwa [List.getElem_map] at this
    have s2 : ∀ i, i < ss.length → lap ss.length (fF (flowsR rows ws ss)) (fun i => (z[i]!).2) i = gf ws (o q) ss[i]! := fun i hi => by
      rw [lap_list hi, ← zi i hi, ← hz _ (get_mem (by omega)), S_range z, lz]
      exact S_congr fun j hj => by rw [zi j (List.mem_range.mp hj)]
    have u := lap_uniq (fun i j hi hj => h.N.symF i j (by rw [flowsR_len]; exact hi) (by rw [flowsR_len]; exact hj)) sx s2 sy
    have u2 : S (List.range ss'.length) (fun i => gf ws' p ss'[i]! * x' i) = c * S (List.range ss.length) (fun i => gf ws (o p) ss[i]! * x i) := by
      rw [u]
      have : S (List.range ss.length) (fun i => gf ws (o p) ss[i]! * (z[i]!).2) = S z (fun e => gf ws (o p) e.1 * e.2) := by
        rw [S_range z, lz]
        exact S_congr fun i hi => by rw [zi i (List.mem_range.mp hi)]
      rw [this, S_perm pz, S_map, ← S_mul]
      refine S_congr fun i hi => ?_
      rw [h.hg p hp _ (get_mem (List.mem_range.mp hi))]
      grind
    rw [u2, h.hW, Rat.div_def, Rat.div_def]
    by_cases q0 : sumR ws = 0
    · rw [q0]; simp
    · have i1 := Rat.inv_mul_cancel _ q0
      have : (c * sumR ws)⁻¹ = c⁻¹ * (sumR ws)⁻¹ := by
        rw [Rat.mul_comm c]
        have i2 := Rat.inv_mul_cancel _ h.c0
        have hne : sumR ws * c ≠ 0 := fun q => by
          rcases Rat.mul_eq_zero.mp q with q | q
          · exact q0 q
          · exact h.c0 q
        have i3 := Rat.inv_mul_cancel _ hne
        grind
      rw [this]
      have i2 := Rat.inv_mul_cancel _ h.c0
      grind
  · rw [aheadsR_at (by rw [gl]; exact hq'), flowsR_len, goalsR_at hp', List.length_map]
  · rw [aheadsR_at (by rw [gl']; exact hq), flowsR_len, goalsR_at (h.wl ▸ hp), List.length_map]
theorem Same.cell {rows' : List (List Rat)} {ws' : List Rat} {ss' : List St3} {o : Nat → Nat} {φ : St3 → St3} {c : Rat} (h : Same rows rows' ws ws' ss ss' o φ c) {p q : Nat} (hp : p < ws.length) (hq : q < ws.length) :
    cellR ws' (goalsR ws' ss') (aheadsR (flowsR rows' ws' ss') (goalsR ws' ss')) p q = cellR ws (goalsR ws ss) (aheadsR (flowsR rows ws ss) (goalsR ws ss)) (o p) (o q) := by
  unfold cellR
  rw [h.both hp hq, h.hs p hp, h.hs q hq]
  by_cases e : p = q
  · rw [if_pos e, if_pos ((h.inj p q hp hq).mp e)]
  · rw [if_neg e, if_neg fun k => e ((h.inj p q hp hq).mpr k)]
end
end Gw
/-! Plain: sizes of a guessed walk's numbers; it is a net. -/
namespace Gw
/-- so many parts of one, times an INTEGER -/
def IsF (D : Nat) (x : Rat) : Prop := ∃ t : Int, x * ((D : Nat) : Rat) = ((t : Int) : Rat)
theorem isF_den {D : Nat} {x : Rat} (h : x.den ∣ D) : IsF D x := by
  obtain ⟨c, rfl⟩ := h
  refine ⟨x.num * c, ?_⟩
  have h1 : x * ((x.den : Nat) : Rat) = ((x.num : Int) : Rat) := by
    have h1 : x = ((x.num : Int) : Rat) / ((x.den : Nat) : Rat) := by
      conv => lhs; rw [← q_self x, Rat.divInt_eq_div]
      rfl
    have h2 : ((x.den : Nat) : Rat) ≠ 0 := by
      rw [Ne, Rat.natCast_eq_zero_iff]; exact x.den_nz
    have key : ∀ a b : Rat, b ≠ 0 → x = a / b → x * b = a := fun a b hb e => by rw [e, Rat.div_mul_cancel hb]
    exact key _ _ h2 h1
  rw [Rat.natCast_mul, ← Rat.mul_assoc, h1, Rat.intCast_mul]
  rfl
theorem IsF.den {D : Nat} {x : Rat} (h : IsF D x) (hD : 0 < D) : x.den ∣ D := by
  obtain ⟨t, ht⟩ := h
  have hz : ((D : Nat) : Rat) ≠ 0 := by rw [Ne, Rat.natCast_eq_zero_iff]; omega
  have e : x = Rat.divInt t (D : Int) := by
    rw [Rat.divInt_eq_div, ← ht]
    show x = x * ((D : Nat) : Rat) / ((D : Nat) : Rat)
    rw [Rat.div_def, Rat.mul_assoc, Rat.mul_inv_cancel _ hz, Rat.mul_one]
  rw [e, Rat.den_divInt, if_neg (by omega), Int.natAbs_natCast]
  refine Nat.div_dvd_of_dvd ?_
  have := Int.gcd_dvd_left (a := (D : Int)) (b := t)
  exact Int.natCast_dvd_natCast.mp this
theorem IsF.add {D : Nat} {x y : Rat} (h : IsF D x) (k : IsF D y) : IsF D (x + y) := by
  obtain ⟨t, ht⟩ := h
  obtain ⟨s, hs⟩ := k
  exact ⟨t + s, by rw [Rat.intCast_add, ← ht, ← hs]; grind⟩
theorem IsF.neg {D : Nat} {x : Rat} (h : IsF D x) : IsF D (-x) := by
  obtain ⟨t, ht⟩ := h
  exact ⟨-t, by rw [Rat.intCast_neg, ← ht]; grind⟩
theorem IsF.sub {D : Nat} {x y : Rat} (h : IsF D x) (k : IsF D y) : IsF D (x - y) := by
  rw [Rat.sub_eq_add_neg]; exact h.add k.neg
theorem IsF.mul {D E : Nat} {x y : Rat} (h : IsF D x) (k : IsF E y) : IsF (D * E) (x * y) := by
  obtain ⟨t, ht⟩ := h
  obtain ⟨s, hs⟩ := k
  exact ⟨t * s, by rw [Rat.intCast_mul, Rat.natCast_mul, ← ht, ← hs]; grind⟩
theorem IsF.up {D E : Nat} {x : Rat} (h : IsF D x) (k : D ∣ E) : IsF E x := by
  obtain ⟨t, ht⟩ := h
  obtain ⟨c, rfl⟩ := k
  refine ⟨t * c, ?_⟩
  rw [Rat.natCast_mul, ← Rat.mul_assoc, ht, Rat.intCast_mul]
  rfl
theorem isF_int (D : Nat) (i : Int) : IsF D (i : Rat) := ⟨i * D, by rw [Rat.intCast_mul]; rfl⟩
theorem isF_0 (D : Nat) : IsF D 0 := isF_int D 0
theorem isF_1 (D : Nat) : IsF D 1 := isF_int D 1
theorem IsF.S {α : Type} {D : Nat} {l : List α} {f : α → Rat} (h : ∀ a ∈ l, IsF D (f a)) : IsF D (S l f) := by
  induction l with
  | nil => exact isF_0 D
  | cons a l ih =>
    rw [S_cons]
    exact (h a (by simp)).add (ih fun b hb => h b (by simp [hb]))
/-- a number between -B and B -/
def Bt (B : Nat) (x : Rat) : Prop := -((B : Nat) : Rat) ≤ x ∧ x ≤ ((B : Nat) : Rat)
theorem Bt.num {B : Nat} {x : Rat} (h : Bt B x) : x.num.natAbs ≤ B * x.den := by
  obtain ⟨h1, h2⟩ := h
  rw [Rat.le_iff] at h1 h2
  simp only [Rat.neg_num, Rat.neg_den, Rat.num_natCast, Rat.den_natCast] at h1 h2
  have e : ((B * x.den : Nat) : Int) = (B : Int) * (x.den : Int) := Int.natCast_mul _ _
  have a1 : x.num ≤ (B : Int) * (x.den : Int) := by simpa using h2
  have a2 : -((B : Int) * (x.den : Int)) ≤ x.num := by
    have : -(B : Int) * (x.den : Int) ≤ x.num := by simpa using h1
    rwa [Int.neg_mul] at this
  omega
theorem sz_of {D B n : Nat} {x : Rat} (h : IsF D x) (hb : Bt B x) (hD : 0 < D) (h1 : D < 2 ^ n) (h2 : B * D < 2 ^ n) : Sz n x := by
  have hd := Nat.le_of_dvd hD (h.den hD)
  exact ⟨Nat.lt_of_le_of_lt (Nat.le_trans hb.num (Nat.mul_le_mul_left _ hd)) h2, Nat.lt_of_le_of_lt hd h1⟩
theorem Bt.of {B : Nat} {x : Rat} (h0 : 0 ≤ x) (h : x ≤ ((B : Nat) : Rat)) : Bt B x := by
  refine ⟨?_, h⟩
  have : (0 : Rat) ≤ ((B : Nat) : Rat) := Rat.natCast_nonneg
  grind
theorem mul_le' {a b c d : Rat} (ha : 0 ≤ a) (hab : a ≤ b) (hc : 0 ≤ c) (hcd : c ≤ d) : a * c ≤ b * d := by
  have h1 : a * c ≤ b * c := Rat.mul_le_mul_of_nonneg_right hab hc
  have h2 : b * c ≤ b * d := Rat.mul_le_mul_of_nonneg_left hcd (by grind)
  grind
/-! ### a guess -/
structure GdG (g : List (Rat × Rat)) : Prop where
  gp : GuessP g
  cf : ∀ p ∈ g, p.1 ≤ 1 ∧ p.1.den ∣ 12 ∧ p.2 ≤ 3 ∧ p.2.den ∣ 12
/-- a guessed walk of two or three places with numbers that are not great -/
structure GG (n : Nat) (rows : List (List Rat)) (ws : List Rat) (gs : List (List (Rat × Rat))) : Prop where
  n2 : n = 2 ∨ n = 3
  rl : rows.length = n
  rr : ∀ r ∈ rows, r.length = n
  rx : ∀ r ∈ rows, ∀ x ∈ r, 0 ≤ x ∧ x.den ∣ 60
  rs : ∀ r ∈ rows, sumR r = 1
  wl : ws.length = n
  wx : ∀ x ∈ ws, 0 < x ∧ x ≤ 4 ∧ x.den ∣ 1
  wt : ∃ T : Nat, 0 < T ∧ T ≤ 12 ∧ (∀ x ∈ ws, (x / sumR ws).den ∣ T) ∧ sumR ws = ((T : Nat) : Rat)
  gl : gs.length = n
  g : ∀ g ∈ gs, GdG g
  m6 : (standR gs).length ≤ 6
section
variable {n : Nat} {rows : List (List Rat)} {ws : List Rat} {gs : List (List (Rat × Rat))}
theorem mem_stand {s : St3} (gs : List (List (Rat × Rat))) : s ∈ standR gs ↔ s.1 < gs.length ∧ (s.2.1, s.2.2) ∈ gs[s.1]! ∧ 0 < s.2.2 := by
  unfold standR
  rw [List.mem_flatten]
  constructor
  · rintro ⟨l, hl, hs⟩
    obtain ⟨q, hq, rfl⟩ := List.mem_map.mp hl
    unfold standOf at hs
    obtain ⟨p, hp, rfl⟩ := List.mem_map.mp hs
    obtain ⟨hp1, hp2⟩ := List.mem_filter.mp hp
    obtain ⟨i, hi, e⟩ := List.mem_iff_getElem.mp hq
    have hi2 : i < gs.length := by rw [enumN_len] at hi; exact hi
    have := enumN_get (List.getElem?_eq_some_iff.mpr ⟨hi, e⟩)
    have e2 : gs[i] = q.2 := by
      have := this.2
      rw [List.getElem?_eq_getElem hi2] at this
      exact Option.some.inj this
    refine ⟨by rw [this.1]; exact hi2, ?_, by simpa using hp2⟩
    show (p.1, p.2) ∈ gs[q.1]!
    rw [this.1, getElem!_pos gs i hi2, e2]
    exact hp1
  · rintro ⟨h1, h2, h3⟩
    refine ⟨standOf (s.1, gs[s.1]!), List.mem_map.mpr ⟨(s.1, gs[s.1]!), ?_, rfl⟩, ?_⟩
    · unfold enumN
      refine List.mem_map.mpr ⟨(gs[s.1]!, s.1), ?_, rfl⟩
      rw [List.mem_zipIdx_iff_getElem?, getElem!_pos gs _ h1]
      exact List.getElem?_eq_getElem h1
    · unfold standOf
      exact List.mem_map.mpr ⟨(s.2.1, s.2.2), List.mem_filter.mpr ⟨h2, by simpa using h3⟩, rfl⟩
theorem S_flatten {α : Type} {L : List (List α)} {f : α → Rat} : S L.flatten f = S L (fun l => S l f) := by
  induction L with
  | nil => rfl
  | cons l L ih => rw [List.flatten_cons, S_app, S_cons, ih]
theorem S_filter {α : Type} {l : List α} {p : α → Bool} {f : α → Rat} (h : ∀ a ∈ l, p a = false → f a = 0) : S (l.filter p) f = S l f := by
  induction l with
  | nil => rfl
  | cons a l ih =>
    have ih := ih fun b hb => h b (by simp [hb])
    rw [S_cons, List.filter_cons]
    cases e : p a with
    | true => rw [if_pos rfl, S_cons, ih]
    | false =>
      rw [if_neg (by simp), ih, h a (by simp) e]
      grind
/-- sums over standings, by place -/
theorem S_stand (h : ∀ g ∈ gs, GuessP g) (k : Nat → Rat) : S (standR gs) (fun s => k s.1 * s.2.1 * s.2.2) = S (List.range gs.length) k := by
  unfold standR
  rw [S_flatten, S_map]
  have e : S (enumN gs) (fun b => S (standOf b) fun s => k s.1 * s.2.1 * s.2.2) = S (enumN gs) (fun b => k b.1) := by
    refine S_congr fun b hb => ?_
    unfold standOf
    have hg : b.2 ∈ gs := by
      unfold enumN at hb
      obtain ⟨q, hq, rfl⟩ := List.mem_map.mp hb
      exact List.fst_mem_of_mem_zipIdx hq
    rw [S_map]
    show S (b.2.filter fun p => decide (0 < p.2)) (fun p : Rat × Rat => k b.1 * p.1 * p.2) = _
    rw [S_filter]
    · have := (h _ hg).mean
      rw [sumR_S, S_map] at this
      have e2 : S b.2 (fun p : Rat × Rat => k b.1 * p.1 * p.2) = k b.1 * S b.2 (fun p => p.1 * p.2) := by
        rw [← S_mul]; exact S_congr fun p _ => by grind
      rw [e2, this]; grind
    · intro p hp hf
      have h1 := ((h _ hg).part p hp).2
      have h2 : ¬ (0 < p.2) := by simpa using hf
      have : p.2 = 0 := by grind
      rw [this]; grind
  rw [e]
  unfold enumN
  rw [S_map, S_range gs.zipIdx, List.length_zipIdx]
  refine S_congr fun i hi => ?_
  have hi := List.mem_range.mp hi
  rw [getElem!_pos _ i (by simpa using hi), List.getElem_zipIdx]
  simp
theorem S_filter_le {α : Type} {l : List α} {p : α → Bool} {f : α → Rat} (h : ∀ a ∈ l, 0 ≤ f a) : S (l.filter p) f ≤ S l f := by
  induction l with
  | nil => exact Rat.le_refl
  | cons a l ih =>
    have ih := ih fun b hb => h b (by simp [hb])
    have h0 := h a (by simp)
    rw [S_cons, List.filter_cons]
    split
    · rw [S_cons]; grind
    · grind
theorem S_mono {α : Type} {l : List α} {f g : α → Rat} (h : ∀ a ∈ l, f a ≤ g a) : S l f ≤ S l g := by
  induction l with
  | nil => exact Rat.le_refl
  | cons a l ih =>
    have ih := ih fun b hb => h b (by simp [hb])
    have h0 := h a (by simp)
    rw [S_cons, S_cons]; grind
theorem S_standC (h : ∀ g ∈ gs, GuessP g) {k : Nat → Rat} (hk : ∀ i, i < gs.length → 0 ≤ k i) : S (standR gs) (fun s => s.2.1 * k s.1) ≤ S (List.range gs.length) k := by
  unfold standR
  rw [S_flatten, S_map]
  have hm : ∀ b ∈ enumN gs, b.2 ∈ gs ∧ b.1 < gs.length := fun b hb => by
    unfold enumN at hb
    obtain ⟨q, hq, rfl⟩ := List.mem_map.mp hb
    exact ⟨List.fst_mem_of_mem_zipIdx hq, List.snd_lt_of_mem_zipIdx hq⟩
  have e : S (enumN gs) (fun b => S (standOf b) fun s => s.2.1 * k s.1) ≤ S (enumN gs) (fun b => k b.1) := by
    refine S_mono fun b hb => ?_
    obtain ⟨hg, hl⟩ := hm b hb
    unfold standOf
    rw [S_map]
    show S (b.2.filter fun p => decide (0 < p.2)) (fun p : Rat × Rat => p.1 * k b.1) ≤ _
    have hk0 := hk b.1 hl
    have le := S_filter_le (l := b.2) (p := fun p => decide (0 < p.2)) (f := fun p : Rat × Rat => p.1 * k b.1) fun p hp => Rat.mul_nonneg (by have := ((h _ hg).part p hp).1; grind) hk0
    have one := (h _ hg).one
    rw [sumR_S, S_map] at one
    rw [S_mulr (l := b.2), one] at le
    grind
  have e2 : S (enumN gs) (fun b => k b.1) = S (List.range gs.length) k := by
    unfold enumN
    rw [S_map, S_range gs.zipIdx, List.length_zipIdx]
    refine S_congr fun i hi => ?_
    have hi := List.mem_range.mp hi
    rw [getElem!_pos _ i (by simpa using hi), List.getElem_zipIdx]
    simp
  rw [← e2]
  exact e
/-- a standing's mass -/
def mass (ws : List Rat) (a : St3) : Rat := ws[a.1]! * a.2.1 * a.2.2
namespace GG
variable (h : GG n rows ws gs)
include h
theorem n3 : n ≤ 3 := by have := h.n2; omega
theorem n2' : 2 ≤ n := by have := h.n2; omega
theorem row {i : Nat} (hi : i < n) : rows[i]! ∈ rows := get_mem (by rw [h.rl]; exact hi)
theorem cell {i j : Nat} (hi : i < n) (hj : j < n) : (rows[i]!)[j]! ∈ rows[i]! := get_mem (by rw [h.rr _ (h.row hi)]; exact hj)
theorem le1 : ∀ r ∈ rows, ∀ x ∈ r, x ≤ 1 := fun r hr x hx => by
  have := h.rs r hr
  rw [sumR_S] at this
  rw [← this]
  exact S_le (f := fun x => x) (fun y hy => (h.rx r hr y hy).1) hx
theorem cb {i j : Nat} (hi : i < n) (hj : j < n) : 0 ≤ (rows[i]!)[j]! ∧ (rows[i]!)[j]! ≤ 1 ∧ IsF 60 (rows[i]!)[j]! :=
  ⟨(h.rx _ (h.row hi) _ (h.cell hi hj)).1, h.le1 _ (h.row hi) _ (h.cell hi hj), isF_den (h.rx _ (h.row hi) _ (h.cell hi hj)).2⟩
theorem wb {i : Nat} (hi : i < n) : 0 < ws[i]! ∧ ws[i]! ≤ 4 ∧ IsF 1 ws[i]! := by
  have := h.wx _ (get_mem (xs := ws) (i := i) (by rw [h.wl]; exact hi))
  exact ⟨this.1, this.2.1, isF_den this.2.2⟩
theorem sb {s : St3} (hs : s ∈ standR gs) : s.1 < n ∧ (0 < s.2.1 ∧ s.2.1 ≤ 1 ∧ IsF 12 s.2.1) ∧ (0 < s.2.2 ∧ s.2.2 ≤ 3 ∧ IsF 12 s.2.2) := by
  obtain ⟨h1, h2, h3⟩ := (mem_stand gs).mp hs
  have g := h.g _ (get_mem h1)
  have c := g.cf _ h2
  exact ⟨by rw [← h.gl]; exact h1, ⟨(g.gp.part _ h2).1, c.1, isF_den c.2.1⟩, h3, c.2.2.1, isF_den c.2.2.2⟩
theorem hereB {a b : St3} (ha : a ∈ standR gs) (hb : b ∈ standR gs) : 0 ≤ hereR rows ws a b ∧ hereR rows ws a b ≤ 12 ∧ IsF 720 (hereR rows ws a b) := by
  obtain ⟨a1, a2, a3⟩ := h.sb ha
  obtain ⟨b1, b2, b3⟩ := h.sb hb
  have w := h.wb a1
  have c := h.cb a1 b1
  unfold hereR
  have p1 : 0 ≤ ws[a.1]! * a.2.2 := Rat.mul_nonneg (by grind) (by grind)
  have p2 : ws[a.1]! * a.2.2 ≤ 4 * 3 := mul_le' (by grind) w.2.1 (by grind) a3.2.1
  have p3 : ws[a.1]! * a.2.2 * (rows[a.1]!)[b.1]! ≤ 4 * 3 * 1 := mul_le' p1 p2 c.1 c.2.1
  refine ⟨Rat.mul_nonneg p1 c.1, by grind, ?_⟩
  exact (w.2.2.mul a3.2.2).mul c.2.2
theorem flowB {a b : St3} (ha : a ∈ standR gs) (hb : b ∈ standR gs) : 0 ≤ flowR rows ws a b ∧ flowR rows ws a b ≤ 12 ∧ IsF 103680 (flowR rows ws a b) := by
  obtain ⟨a1, a2, a3⟩ := h.sb ha
  obtain ⟨b1, b2, b3⟩ := h.sb hb
  have x := h.hereB ha hb
  have y := h.hereB hb ha
  have z : 0 ≤ (if hereR rows ws a b < hereR rows ws b a then hereR rows ws a b else hereR rows ws b a) ∧ (if hereR rows ws a b < hereR rows ws b a then hereR rows ws a b else hereR rows ws b a) ≤ 12 ∧ IsF 720 (if hereR rows ws a b < hereR rows ws b a then hereR rows ws a b else hereR rows ws b a) := by
    split
    · exact x
    · exact y
  unfold flowR
  generalize (if hereR rows ws a b < hereR rows ws b a then hereR rows ws a b else hereR rows ws b a) = q at *
  have p1 : 0 ≤ a.2.1 * b.2.1 := Rat.mul_nonneg (by grind) (by grind)
  have p2 : a.2.1 * b.2.1 ≤ 1 * 1 := mul_le' (by grind) a2.2.1 (by grind) b2.2.1
  have p3 : a.2.1 * b.2.1 * q ≤ 1 * 1 * 12 := mul_le' p1 p2 z.1 z.2.1
  refine ⟨Rat.mul_nonneg p1 z.1, by grind, ?_⟩
  exact ((a2.2.2.mul b2.2.2).mul z.2.2).up (by decide)
theorem W0 : 0 < sumR ws := by
  rw [sumR_S]
  have h0 : 0 < n := by have := h.n2; omega
  have h1 : 0 < ws[0]! := (h.wb h0).1
  have h2 := S_le (l := ws) (f := fun x => x) (a := ws[0]!) (fun x hx => by have := (h.wx x hx).1; grind) (get_mem (by rw [h.wl]; exact h0))
  grind
theorem WB : sumR ws ≤ 12 ∧ IsF 1 (sumR ws) := by
  rw [sumR_S]
  refine ⟨?_, IsF.S fun x hx => isF_den (h.wx x hx).2.2⟩
  have hb : ∀ l : List Rat, (∀ x ∈ l, x ≤ 4) → l.length ≤ 3 → S l (fun x => x) ≤ 12 := by
    intro l hl h3
    match l, hl, h3 with
    | [], _, _ => rw [S_nil]; decide
    | [a], hl, _ => simp only [S_cons, S_nil]; have := hl a (by simp); grind
    | [a, b], hl, _ => simp only [S_cons, S_nil]; have := hl a (by simp); have := hl b (by simp); grind
    | [a, b, c], hl, _ => simp only [S_cons, S_nil]; have := hl a (by simp); have := hl b (by simp); have := hl c (by simp); grind
    | _ :: _ :: _ :: _ :: _, _, h3 => simp at h3
  exact hb ws (fun x hx => (h.wx x hx).2.1) (by rw [h.wl]; exact h.n3)
theorem shB {x : Rat} (hx : x ∈ sharesR ws) : 0 ≤ x ∧ x ≤ 1 := by
  obtain ⟨w, hw, rfl⟩ := List.mem_map.mp hx
  have W := h.W0
  have hw1 := (h.wx w hw).1
  have hw2 : w ≤ sumR ws := by
    rw [sumR_S]
    exact S_le (f := fun x => x) (fun y hy => by have := (h.wx y hy).1; grind) hw
  have i1 := Rat.mul_inv_cancel (sumR ws) (by grind)
  have i2 : 0 ≤ (sumR ws)⁻¹ := by
    have := Rat.inv_pos (a := sumR ws)
    grind
  rw [Rat.div_def]
  refine ⟨Rat.mul_nonneg (by grind) i2, ?_⟩
  rw [← i1]
  exact Rat.mul_le_mul_of_nonneg_right hw2 i2
theorem shS : S (List.range n) (fun i => (sharesR ws)[i]!) = 1 := by
  have e : S (sharesR ws) (fun x => x) = 1 := by
    unfold sharesR
    rw [S_map]
    have : S ws (fun b => b / sumR ws) = S ws (fun b => b) * (sumR ws)⁻¹ := by
      rw [← S_mulr]
      exact S_congr fun x _ => Rat.div_def _ _
    rw [this, ← sumR_S]
    exact Rat.mul_inv_cancel _ (by have := h.W0; grind)
  rw [S_range, sharesR_len, h.wl] at e
  exact e
theorem sh_at {p : Nat} (hp : p < n) : (sharesR ws)[p]! = ws[p]! / sumR ws ∧ (sharesR ws)[p]! ∈ sharesR ws := by
  have h1 : p < ws.length := by rw [h.wl]; exact hp
  have h2 : p < (sharesR ws).length := by rw [sharesR_len]; exact h1
  refine ⟨?_, get_mem h2⟩
  rw [getElem!_pos _ p h2, getElem!_pos ws p h1]
  simp [sharesR]
theorem gfB {T : Nat} (hT : ∀ x ∈ ws, (x / sumR ws).den ∣ T) {s : St3} (hs : s ∈ standR gs) {p : Nat} (hp : p < n) : Bt 12 (gf ws p s) ∧ IsF (144 * T) (gf ws p s) := by
  obtain ⟨a1, a2, a3⟩ := h.sb hs
  have w := h.wb a1
  obtain ⟨e, hm⟩ := h.sh_at hp
  have sB := h.shB hm
  have p1 : 0 ≤ ws[s.1]! * s.2.1 := Rat.mul_nonneg (by grind) (by grind)
  have p2 : ws[s.1]! * s.2.1 ≤ 4 * 1 := mul_le' (by grind) w.2.1 (by grind) a2.2.1
  have p3 : 0 ≤ ws[s.1]! * s.2.1 * s.2.2 := Rat.mul_nonneg p1 (by grind)
  have p4 : ws[s.1]! * s.2.1 * s.2.2 ≤ 4 * 1 * 3 := mul_le' p1 p2 (by grind) a3.2.1
  have dF : IsF T (sharesR ws)[p]! := by rw [e]; exact isF_den (hT _ (get_mem (by rw [h.wl]; exact hp)))
  have q : IsF (144 * T) (gf ws p s) := by
    unfold gf
    refine ((w.2.2.mul a2.2.2).mul a3.2.2).mul (IsF.sub ?_ dF)
    split
    · exact isF_1 T
    · exact isF_0 T
  refine ⟨?_, q⟩
  unfold gf
  generalize ws[s.1]! * s.2.1 * s.2.2 = u at *
  generalize (sharesR ws)[p]! = v at *
  have d : -1 ≤ (if s.1 = p then (1 : Rat) else 0) - v ∧ (if s.1 = p then (1 : Rat) else 0) - v ≤ 1 := by
    split <;> constructor <;> grind
  generalize (if s.1 = p then (1 : Rat) else 0) - v = d' at *
  have b1 : u * d' ≤ u * 1 := Rat.mul_le_mul_of_nonneg_left d.2 p3
  have b2 : u * (-1) ≤ u * d' := Rat.mul_le_mul_of_nonneg_left d.1 p3
  unfold Bt
  have e84 : ((12 : Nat) : Rat) = 12 := rfl
  rw [e84]
  constructor <;> grind
/-- no more flows out of a standing than its mass -/
theorem out_le {a : St3} (ha : a ∈ standR gs) : S (standR gs) (fun b => flowR rows ws a b) ≤ mass ws a ∧ 0 < mass ws a ∧ mass ws a ≤ 12 := by
  obtain ⟨a1, a2, a3⟩ := h.sb ha
  have w := h.wb a1
  have p1 : 0 < ws[a.1]! * a.2.1 := Rat.mul_pos w.1 a2.1
  have p2 : ws[a.1]! * a.2.1 ≤ 4 * 1 := mul_le' (by grind) w.2.1 (by grind) a2.2.1
  have p3 : 0 < mass ws a := Rat.mul_pos p1 a3.1
  have p4 : mass ws a ≤ 4 * 1 * 3 := mul_le' (by grind) p2 (by grind) a3.2.1
  refine ⟨?_, p3, by grind⟩
  have le1 : S (standR gs) (fun b => flowR rows ws a b) ≤ S (standR gs) (fun b => mass ws a * (b.2.1 * (rows[a.1]!)[b.1]!)) := by
    refine S_mono fun b hb => ?_
    obtain ⟨b1, b2, b3⟩ := h.sb hb
    have c0 : 0 ≤ a.2.1 * b.2.1 := Rat.mul_nonneg (by grind) (by grind)
    have m : (if hereR rows ws a b < hereR rows ws b a then hereR rows ws a b else hereR rows ws b a) ≤ hereR rows ws a b := by
      split <;> grind
    unfold flowR
    have := Rat.mul_le_mul_of_nonneg_left m c0
    have e : mass ws a * (b.2.1 * (rows[a.1]!)[b.1]!) = a.2.1 * b.2.1 * hereR rows ws a b := by
      unfold mass hereR; grind
    rw [e]; exact this
  rw [S_mul] at le1
  have le2 := S_standC (gs := gs) (fun g hg => (h.g g hg).gp) (k := fun q => (rows[a.1]!)[q]!) (fun q hq => (h.cb a1 (by rw [← h.gl]; exact hq)).1)
  have e1 : S (List.range gs.length) (fun q => (rows[a.1]!)[q]!) = 1 := by
    have := h.rs _ (h.row a1)
    rw [sumR_S, S_range, h.rr _ (h.row a1)] at this
    rw [h.gl]
    exact this
  rw [e1] at le2
  have := Rat.mul_le_mul_of_nonneg_left le2 (show 0 ≤ mass ws a by grind)
  grind
end GG
end
end Gw
/-! Plain: what guessed_table asks holds of a guessed walk. -/
namespace Gw
section
variable {n : Nat} {rows : List (List Rat)} {ws : List Rat} {gs : List (List (Rat × Rat))}
theorem natAbs_whole {xs : List Rat} {D B : Nat} (hD : 0 < D) (hd : ∀ x ∈ xs, x.den ∣ D) (hb : ∀ x ∈ xs, Bt B x) : ∀ y ∈ wholesL xs, y.natAbs ≤ B * D := by
  intro y hy
  obtain ⟨x, hx, rfl⟩ := List.mem_map.mp hy
  obtain ⟨c, hc⟩ := den_dvd_lcmD hx
  have hl := Nat.le_of_dvd hD (lcmD_dvd hd)
  have hp := x.den_pos
  rw [hc, Int.natCast_mul, Int.mul_fdiv_cancel_left _ (by omega), Int.natAbs_mul, Int.natAbs_natCast]
  calc x.num.natAbs * c ≤ B * x.den * c := Nat.mul_le_mul_right _ (hb x hx).num
    _ = B * lcmD xs := by rw [hc, Nat.mul_assoc]
    _ ≤ B * D := Nat.mul_le_mul_left _ hl
namespace GG
variable (h : GG n rows ws gs)
include h
theorem has {p : Nat} (hp : p < n) : ∃ i, i < (standR gs).length ∧ ((standR gs)[i]!).1 = p := by
  have hg := h.g _ (get_mem (xs := gs) (i := p) (by rw [h.gl]; exact hp))
  have : ∃ q ∈ gs[p]!, 0 < q.2 := by
    by_cases e : ∃ q ∈ gs[p]!, 0 < q.2
    · exact e
    · exfalso
      have m := hg.gp.mean
      rw [sumR_S, S_map, S_zero'] at m
      · revert m; decide
      · intro q hq
        have h1 := (hg.gp.part q hq).2
        have h2 : ¬ 0 < q.2 := fun k => e ⟨q, hq, k⟩
        have : q.2 = 0 := by grind
        rw [this]; grind
  obtain ⟨q, hq, hv⟩ := this
  have hm : (p, q.1, q.2) ∈ standR gs := (mem_stand gs).mpr ⟨by rw [h.gl]; exact hp, hq, hv⟩
  obtain ⟨i, hi, e⟩ := List.mem_iff_getElem.mp hm
  exact ⟨i, hi, by rw [getElem!_pos _ i hi, e]⟩
theorem m0 : 0 < (standR gs).length := by
  obtain ⟨i, hi, _⟩ := h.has (p := 0) (by have := h.n2; omega)
  omega
theorem fpos {a b : St3} (ha : a ∈ standR gs) (hb : b ∈ standR gs) (h1 : 0 < (rows[a.1]!)[b.1]!) (h2 : 0 < (rows[b.1]!)[a.1]!) : 0 < flowR rows ws a b := by
  have key : ∀ {a b : St3}, a ∈ standR gs → b ∈ standR gs → 0 < (rows[a.1]!)[b.1]! → 0 < hereR rows ws a b := fun {a b} ha hb h1 => by
    obtain ⟨a1, a2, a3⟩ := h.sb ha
    have w := h.wb a1
    unfold hereR
    exact Rat.mul_pos (Rat.mul_pos w.1 a3.1) h1
  have x := key ha hb h1
  have y := key hb ha h2
  unfold flowR
  refine Rat.mul_pos (Rat.mul_pos (h.sb ha).2.1.1 (h.sb hb).2.1.1) ?_
  split
  · exact x
  · exact y
theorem conn (c : Conn2 rows) : Conn (flowsR rows ws (standR gs)) := by
  intro T h0 hcl
  have ml : (flowsR rows ws (standR gs)).length = (standR gs).length := flowsR_len _ _ _
  rw [ml] at hcl ⊢
  have hn := h.n2'
  have st : ∀ i, i < (standR gs).length → (standR gs)[i]! ∈ standR gs := fun i hi => get_mem hi
  have go : ∀ i j, T i → i < (standR gs).length → j < (standR gs).length → ((standR gs)[i]!).1 ≠ ((standR gs)[j]!).1 → 0 < (rows[((standR gs)[i]!).1]!)[((standR gs)[j]!).1]! → 0 < (rows[((standR gs)[j]!).1]!)[((standR gs)[i]!).1]! → T j := fun i j ti hi hj hne q1 q2 => by
    refine hcl i j ti hi hj ?_
    have := flowsR_at (rows := rows) (ws := ws) hi hj
    unfold fF at this
    rw [this, if_neg (fun e => hne (by rw [e]))]
    exact h.fpos (st i hi) (st j hj) q1 q2
  have nb : ∀ p, p < n → ∃ q, q < n ∧ q ≠ p ∧ 0 < (rows[p]!)[q]! ∧ 0 < (rows[q]!)[p]! := fun p hp => by
    by_cases e : ∃ q, q < n ∧ q ≠ p ∧ 0 < (rows[p]!)[q]! ∧ 0 < (rows[q]!)[p]!
    · exact e
    · exfalso
      by_cases p0 : p = 0
      · have := c (fun x => x = 0) rfl (fun i j hi hil hjl a b => by
          show j = 0
          have hi : i = 0 := hi
          subst hi
          by_cases q : j = 0
          · exact q
          · exact absurd ⟨j, by rw [← h.rl]; exact hjl, by omega, by rw [p0]; exact a, by rw [p0]; exact b⟩ e) 1 (by rw [h.rl]; omega)
        exact absurd this (by decide)
      · have := c (fun x => x ≠ p) (fun q => p0 q.symm) (fun i j hi hil hjl a b => by
          show j ≠ p
          intro q
          subst q
          exact e ⟨i, by rw [← h.rl]; exact hil, hi, b, a⟩) p (by rw [h.rl]; exact hp)
        exact this rfl
  let All (p : Nat) : Prop := ∀ i, i < (standR gs).length → ((standR gs)[i]!).1 = p → T i
  have s1 : ∀ p q, p < n → q < n → p ≠ q → 0 < (rows[p]!)[q]! → 0 < (rows[q]!)[p]! → All p → All q := fun p q hp hq hne a b hA j hj e => by
    obtain ⟨i, hi, ei⟩ := h.has hp
    exact go i j (hA i hi ei) hi hj (by rw [ei, e]; exact hne) (by rw [ei, e]; exact a) (by rw [ei, e]; exact b)
  have m0 := h.m0
  have pl : ∀ i, i < (standR gs).length → ((standR gs)[i]!).1 < n := fun i hi => (h.sb (st i hi)).1
  have base : All ((standR gs)[0]!).1 := fun j hj e => by
    obtain ⟨q, hq, hne, a, b⟩ := nb _ (pl 0 m0)
    obtain ⟨k, hk, ek⟩ := h.has hq
    have tk : T k := go 0 k h0 m0 hk (by rw [ek]; exact fun z => hne z.symm) (by rw [ek]; exact a) (by rw [ek]; exact b)
    exact go k j tk hk hj (by rw [ek, e]; exact hne) (by rw [ek, e]; exact b) (by rw [ek, e]; exact a)
  have all := c (fun p => All 0 ↔ All p) Iff.rfl (fun i j hi hil hjl a b => by
    rw [h.rl] at hil hjl
    by_cases e : i = j
    · rw [← e]; exact hi
    · exact hi.trans ⟨s1 i j hil hjl e a b, s1 j i hjl hil (fun z => e z.symm) b a⟩)
  rw [h.rl] at all
  have a0 : All 0 := (all _ (pl 0 m0)).mpr base
  exact fun i hi => (all _ (pl i hi)).mp a0 i hi rfl
theorem goal0 {p : Nat} (hp : p < n) : sumR (goalsR ws (standR gs))[p]! = 0 := by
  rw [goalsR_at (by rw [h.wl]; exact hp), sumR_S, S_map]
  have e : S (standR gs) (fun s => gf ws p s) = S (standR gs) (fun s => (ws[s.1]! * ((if s.1 = p then (1 : Rat) else 0) - (sharesR ws)[p]!)) * s.2.1 * s.2.2) := S_congr fun s _ => by unfold gf; grind
  rw [e, S_stand (fun g hg => (h.g g hg).gp) (fun i => ws[i]! * ((if i = p then (1 : Rat) else 0) - (sharesR ws)[p]!)), h.gl]
  have e2 : S (List.range n) (fun i => ws[i]! * ((if i = p then (1 : Rat) else 0) - (sharesR ws)[p]!)) = S (List.range n) (fun i => if i = p then ws[p]! else 0) - S (List.range n) (fun i => ws[i]!) * (sharesR ws)[p]! := by
    rw [← S_mulr, ← S_sub]
    refine S_congr fun i _ => ?_
    by_cases q : i = p
    · rw [if_pos q, if_pos q, q]; grind
    · rw [if_neg q, if_neg q]; grind
  have e3 : S (List.range n) (fun i => ws[i]!) = sumR ws := by rw [sumR_S, S_range ws, h.wl]
  rw [e2, S_one (i := p) hp fun k _ hk => if_neg hk, if_pos rfl, e3, (h.sh_at hp).1, Rat.div_def]
  have := Rat.mul_inv_cancel (sumR ws) (by have := h.W0; grind)
  grind
theorem net (c : Conn2 rows) : Net (flowsR rows ws (standR gs)) (goalsR ws (standR gs)) := by
  have ml : (flowsR rows ws (standR gs)).length = (standR gs).length := flowsR_len _ _ _
  have st : ∀ i, i < (standR gs).length → (standR gs)[i]! ∈ standR gs := fun i hi => get_mem hi
  refine ⟨by rw [ml]; exact h.m0, flowsR_row, fun i j hi hj => ?_, fun i j hi hj => ?_, fun i hi => ?_, h.conn c, fun g hg => ?_, fun g hg => ?_⟩
  · rw [ml] at hi hj
    have e1 := flowsR_at (rows := rows) (ws := ws) hi hj
    have e2 := flowsR_at (rows := rows) (ws := ws) hj hi
    unfold fF at e1 e2
    rw [e1, e2]
    by_cases q : i = j
    · rw [if_pos q, if_pos q.symm]
    · rw [if_neg q, if_neg fun k => q k.symm, flowR_sym]
  · rw [ml] at hi hj
    have e1 := flowsR_at (rows := rows) (ws := ws) hi hj
    unfold fF at e1
    rw [e1]
    split
    · exact Rat.le_refl
    · exact (h.flowB (st i hi) (st j hj)).1
  · rw [ml] at hi
    have e1 := flowsR_at (rows := rows) (ws := ws) hi hi
    unfold fF at e1
    rw [e1, if_pos rfl]
  · obtain ⟨p, hp, rfl⟩ := List.mem_iff_getElem.mp hg
    rw [goalsR_len] at hp
    rw [← getElem!_pos (goalsR ws (standR gs)) p (by rw [goalsR_len]; exact hp), goalsR_at hp, List.length_map, ml]
  · obtain ⟨p, hp, rfl⟩ := List.mem_iff_getElem.mp hg
    rw [goalsR_len] at hp
    rw [← getElem!_pos (goalsR ws (standR gs)) p (by rw [goalsR_len]; exact hp)]
    exact h.goal0 (by rw [← h.wl]; exact hp)
/-! ### sizes of the rows -/
theorem flowSz : ∀ r ∈ flowsR rows ws (standR gs), ∀ x ∈ r, 0 ≤ x ∧ x ≤ 12 ∧ IsF 103680 x := by
  intro r hr x hx
  unfold flowsR at hr
  obtain ⟨p, hp, rfl⟩ := List.mem_map.mp hr
  obtain ⟨q, hq, rfl⟩ := List.mem_map.mp hx
  split
  · exact ⟨Rat.le_refl, by decide, isF_0 _⟩
  · exact h.flowB (List.fst_mem_of_mem_zipIdx hp) (List.fst_mem_of_mem_zipIdx hq)
theorem sz30 : ∀ r ∈ flowsR rows ws (standR gs), ∀ x ∈ r, Sz 30 x := fun r hr x hx => by
  obtain ⟨a, b, c⟩ := h.flowSz r hr x hx
  exact sz_of c (Bt.of (B := 12) a b) (by decide) (by decide) (by decide)
theorem rowSz {T : Nat} (hT : ∀ x ∈ ws, (x / sumR ws).den ∣ T) {i : Nat} (hi : i < (standR gs).length) : ∀ x ∈ lapRow (flowsR rows ws (standR gs))[i]! i (goalsR ws (standR gs)), Bt 12 x ∧ IsF (103680 * T) x := by
  intro x hx
  have ml : (flowsR rows ws (standR gs)).length = (standR gs).length := flowsR_len _ _ _
  have hr : (flowsR rows ws (standR gs))[i]! ∈ flowsR rows ws (standR gs) := get_mem (by rw [ml]; exact hi)
  have rl := flowsR_row _ hr
  rw [ml] at rl
  obtain ⟨j, hj, e⟩ := List.mem_iff_getElem.mp hx
  rw [lapRow_len, rl, goalsR_len, h.wl] at hj
  rw [← getElem!_pos (lapRow (flowsR rows ws (standR gs))[i]! i (goalsR ws (standR gs))) j (by rw [lapRow_len, rl, goalsR_len, h.wl]; exact hj)] at e
  have m6 := h.m6
  have e504 : ((12 : Nat) : Rat) = 12 := rfl
  by_cases q : j < (standR gs).length
  · rw [lapRow_lo (by rw [rl]; exact q)] at e
    by_cases q2 : j = i
    · rw [if_pos q2, sumR_S] at e
      subst e
      have s0 := S_nonneg (l := (flowsR rows ws (standR gs))[i]!) (f := fun x => x) fun y hy => (h.flowSz _ hr y hy).1
      have o := h.out_le (a := (standR gs)[i]!) (get_mem hi)
      have s1 : S (flowsR rows ws (standR gs))[i]! (fun x => x) ≤ S (standR gs) (fun b => flowR rows ws (standR gs)[i]! b) := by
        rw [S_range, rl, S_range (standR gs)]
        refine S_mono fun j hj => ?_
        have hj := List.mem_range.mp hj
        have := flowsR_at (rows := rows) (ws := ws) hi hj
        unfold fF at this
        rw [this]
        split
        · exact (h.flowB (get_mem hi) (get_mem hj)).1
        · exact Rat.le_refl
      refine ⟨Bt.of s0 (by rw [e504]; grind), (IsF.S fun y hy => (h.flowSz _ hr y hy).2.2).up (Nat.dvd_mul_right _ _)⟩
    · rw [if_neg q2] at e
      subst e
      have hm : ((flowsR rows ws (standR gs))[i]!)[j]! ∈ (flowsR rows ws (standR gs))[i]! := get_mem (by rw [rl]; exact q)
      obtain ⟨a, b, c⟩ := h.flowSz _ hr _ hm
      refine ⟨⟨by rw [e504]; grind, by rw [e504]; grind⟩, ((isF_0 _).sub c).up (Nat.dvd_mul_right _ _)⟩
  · have hk : j - (standR gs).length < ws.length := by rw [h.wl]; omega
    have eh := lapRow_hi (f := (flowsR rows ws (standR gs))[i]!) (i := i) (goals := goalsR ws (standR gs)) (k := j - (standR gs).length) (by rw [goalsR_len]; exact hk)
    rw [rl, show (standR gs).length + (j - (standR gs).length) = j by omega] at eh
    rw [eh, goalsR_at2 hk hi] at e
    subst e
    obtain ⟨b, f⟩ := h.gfB hT (s := (standR gs)[i]!) (get_mem hi) (p := j - (standR gs).length) (by rw [← h.wl]; exact hk)
    have e84 : ((12 : Nat) : Rat) = 12 := rfl
    refine ⟨⟨?_, ?_⟩, f.up (Nat.mul_dvd_mul_right (by decide) T)⟩
    · have := b.1; rw [e84] at this; rw [e504]; grind
    · have := b.2; rw [e84] at this; rw [e504]; grind
theorem rect : Rect ((standR gs).length + n) 24 (lapA (flowsR rows ws (standR gs)) (goalsR ws (standR gs))) ∧ ∀ x ∈ lapRows (flowsR rows ws (standR gs)) (goalsR ws (standR gs)), WhP x ∧ x.length = (standR gs).length + n := by
  obtain ⟨T, T0, T12, hT, _⟩ := h.wt
  have ml : (flowsR rows ws (standR gs)).length = (standR gs).length := flowsR_len _ _ _
  have hr : ∀ x ∈ lapRows (flowsR rows ws (standR gs)) (goalsR ws (standR gs)), x.length = (standR gs).length + n ∧ ∀ e ∈ x, Bt 12 e ∧ IsF (103680 * T) e := by
    intro x hx
    obtain ⟨i, hi, rfl⟩ := List.mem_iff_getElem.mp hx
    rw [lapRows_len] at hi
    rw [← getElem!_pos (lapRows _ _) i (by rw [lapRows_len]; exact hi), lapRows_at hi]
    rw [ml] at hi
    refine ⟨?_, h.rowSz hT hi⟩
    rw [lapRow_len, flowsR_row _ (get_mem (by rw [ml]; exact hi)), ml, goalsR_len, h.wl]
  have D0 : 0 < 103680 * T := by omega
  have DB : 12 * (103680 * T) < 2 ^ 24 := by
    have : (2 : Nat) ^ 24 = 16777216 := by decide
    omega
  refine ⟨⟨fun r hr2 => ?_, fun r hr2 => ?_⟩, fun x hx => ⟨⟨103680 * T, D0, ?_, fun e he => ⟨((hr x hx).2 e he).2.den D0, ?_⟩⟩, (hr x hx).1⟩⟩
  · obtain ⟨x, hx, rfl⟩ := List.mem_map.mp hr2
    rw [wholesL_len]
    exact (hr x hx).1
  · obtain ⟨x, hx, rfl⟩ := List.mem_map.mp hr2
    intro y hy
    exact Nat.lt_of_le_of_lt (natAbs_whole D0 (fun e he => ((hr x hx).2 e he).2.den D0) (fun e he => ((hr x hx).2 e he).1) y hy) DB
  · exact Nat.lt_of_lt_of_le (show 103680 * T < 2 ^ 24 by omega) (Nat.pow_le_pow_right (by omega) (by omega))
  · obtain ⟨b, f⟩ := (hr x hx).2 e he
    refine Nat.lt_of_le_of_lt b.num ?_
    have := Nat.le_of_dvd D0 (f.den D0)
    refine Nat.lt_of_lt_of_le (show 12 * e.den < 2 ^ 24 by omega) (Nat.pow_le_pow_right (by omega) (by omega))
theorem steps (c : Conn2 rows) : (int_stepsR (lapA (flowsR rows ws (standR gs)) (goalsR ws (standR gs)))).length ≤ 5 ∧ ∀ r ∈ int_stepsR (lapA (flowsR rows ws (standR gs)) (goalsR ws (standR gs))), Bd 799 r ∧ r.length = (standR gs).length + n ∧ headOf r < (standR gs).length ∧ vv r (headOf r) ≠ 0 := by
  have N := h.net c
  have ml : (flowsR rows ws (standR gs)).length = (standR gs).length := flowsR_len _ _ _
  have m6 := h.m6
  have m0 := h.m0
  obtain ⟨e, E⟩ := N.ended
  have few := E.few
  rw [ml] at few
  refine ⟨by omega, fun r hr => ⟨?_, ?_, ?_, (E.hd r hr).2⟩⟩
  · have ok := stepsTo_ok (b := 24) h.rect.1 (flowsR rows ws (standR gs)).length.pred (by rw [ml]; show (standR gs).length - 1 ≤ _; omega)
    have hb := ok.f.bd
    have e2 : (flowsR rows ws (standR gs)).length.pred = (flowsR rows ws (standR gs)).length - 1 := rfl
    rw [e2, ← e] at hb
    refine (hb r hr).mono ?_
    have : bits 24 (int_stepsR (lapA (flowsR rows ws (standR gs)) (goalsR ws (standR gs)))).length ≤ bits 24 5 := bits_mono (by omega)
    have b5 : bits 24 5 = 799 := by decide
    omega
  · rw [E.len r hr, ml, goalsR_len, h.wl]
  · have := (E.hd r hr).1
    rw [ml] at this
    omega
end GG
end
end Gw
/-! Plain: what guessed_table asks, all of it. -/
namespace Gw
theorem Sz.divInt {n : Nat} {a b : Int} (ha : a.natAbs < 2 ^ n) (hb : b.natAbs < 2 ^ n) (h : b ≠ 0) : Sz n (Rat.divInt a b) := ⟨Nat.lt_of_le_of_lt (num_le a b h) ha, Nat.lt_of_le_of_lt (den_le a b h) hb⟩
theorem told_sz {k : Nat} {r : List Int} (h : Bd k r) (h0 : vv r (headOf r) ≠ 0) : ∀ x ∈ told_rowR r, Sz k x := by
  intro x hx
  obtain ⟨y, hy, rfl⟩ := List.mem_map.mp hx
  have hl := vv_lt h0
  exact Sz.divInt (h y hy) (h.get hl) (fun q => h0 (vv_zero.mpr q))
theorem fold_all {P : Rat → Prop} {n k : Nat} : ∀ {rows : List (List Rat)} {l : List Rat}, (∀ x ∈ l, P x) → (∀ r ∈ rows, P (r[n + k]!)) → ∀ x ∈ rows.foldl (fun l row => l.set (headQ row) (row[n + k]!)) l, P x
  | [], l, hl, _ => hl
  | r :: rs, l, hl, hr => by
    rw [List.foldl_cons]
    refine fold_all (fun x hx => ?_) (fun q hq => hr q (by simp [hq]))
    rcases List.mem_or_eq_of_mem_set hx with q | q
    · exact hl x q
    · rw [q]; exact hr r (by simp)
section
variable {n : Nat} {rows : List (List Rat)} {ws : List Rat} {gs : List (List (Rat × Rat))}
namespace GG
variable (h : GG n rows ws gs)
include h
theorem ah (c : Conn2 rows) : AhP (flowsR rows ws (standR gs)) (goalsR ws (standR gs)) := by
  have ml : (flowsR rows ws (standR gs)).length = (standR gs).length := flowsR_len _ _ _
  have gl : (goalsR ws (standR gs)).length = n := by rw [goalsR_len, h.wl]
  have m6 := h.m6
  have n3 := h.n3
  obtain ⟨R, W⟩ := h.rect
  obtain ⟨s5, st⟩ := h.steps c
  have N := h.net c
  refine ⟨by omega, flowsR_row, fun r hr => ?_, fun r hr x hx => ?_, by omega, N.gr, ⟨fun x hx => ⟨(W x hx).1, by rw [(W x hx).2]; omega⟩, by rw [lapRows_len]; omega, ⟨_, 24, R, ?_, by omega, ?_⟩, ?_, ?_⟩, fun row hr => ?_, ?_⟩
  · have rl := flowsR_row r hr
    exact FitsL.zero (n := 30) (h.sz30 r hr) (by rw [rl, ml]; omega)
  · exact sz0.fits (h.sz30 r hr x hx) (by decide)
  · have : ((lapRows (flowsR rows ws (standR gs)) (goalsR ws (standR gs))).map wholesL).length ≤ 6 := by rw [List.length_map, lapRows_len]; omega
    have b := bits_mono (b := 24) this
    have b6 : bits 24 6 = 1599 := by decide
    omega
  · show (List.map _ _).length ≤ 100
    rw [List.length_map, lapRows_len]; omega
  · show (int_stepsR (lapA _ _)).length ≤ 1000
    omega
  · intro r hr
    obtain ⟨b, l, hd, _⟩ := st r hr
    exact ⟨by omega, b.mono (by decide), by omega⟩
  · unfold steps_ofR at hr
    obtain ⟨r, hr2, rfl⟩ := List.mem_map.mp hr
    obtain ⟨b, l, hd, h0⟩ := st r hr2
    rw [told_len, told_head h0, l, gl, ml]
    exact ⟨rfl, hd⟩
  · unfold steps_ofR
    rw [List.length_map]
    show (int_stepsR (lapA _ _)).length ≤ 1000
    omega
theorem aheadSz (c : Conn2 rows) {q : Nat} (hq : q < n) : ∀ x ∈ (aheadsR (flowsR rows ws (standR gs)) (goalsR ws (standR gs)))[q]!, Sz 799 x := by
  have gl : (goalsR ws (standR gs)).length = n := by rw [goalsR_len, h.wl]
  have ml : (flowsR rows ws (standR gs)).length = (standR gs).length := flowsR_len _ _ _
  obtain ⟨s5, st⟩ := h.steps c
  rw [getElem!_pos _ q (by rw [aheadsR_len, gl]; exact hq)]
  unfold aheadsR
  rw [List.getElem_map, List.getElem_range]
  unfold aheadOf
  refine fold_all (fun x hx => ?_) fun r hr => ?_
  · rw [List.eq_of_mem_replicate hx]
    exact sz0.mono (by decide)
  · unfold steps_ofR at hr
    obtain ⟨r, hr2, rfl⟩ := List.mem_map.mp hr
    obtain ⟨b, l, hd, h0⟩ := st r hr2
    exact told_sz b h0 _ (get_mem (by rw [told_len, l, ml]; omega))
theorem wSz : ∀ x ∈ ws, Sz 10 x := fun x hx => by
  obtain ⟨a, b, c⟩ := h.wx x hx
  exact sz_of (isF_den c) (Bt.of (B := 4) (by grind) b) (by decide) (by decide) (by decide)
theorem WSz : Sz 10 (sumR ws) := sz_of h.WB.2 (Bt.of (B := 12) (by have := h.W0; grind) h.WB.1) (by decide) (by decide) (by decide)
theorem shSz : ∀ x ∈ sharesR ws, Sz 4 x := fun x hx => by
  obtain ⟨T, T0, T12, hT, _⟩ := h.wt
  have b := h.shB hx
  obtain ⟨w, hw, rfl⟩ := List.mem_map.mp hx
  exact sz_of (isF_den (hT w hw)) (Bt.of (B := 1) b.1 b.2) T0 (by show T < 16; omega) (by show 1 * T < 16; omega)
theorem gSz {p : Nat} (hp : p < n) : ∀ x ∈ (goalsR ws (standR gs))[p]!, Sz 20 x := by
  obtain ⟨T, T0, T12, hT, _⟩ := h.wt
  intro x hx
  rw [goalsR_at (by rw [h.wl]; exact hp)] at hx
  obtain ⟨s, hs, rfl⟩ := List.mem_map.mp hx
  obtain ⟨b, f⟩ := h.gfB hT hs hp
  have e : (2 : Nat) ^ 20 = 1048576 := by decide
  exact sz_of f b (by omega) (by omega) (by omega)
theorem tb (c : Conn2 rows) : TbP ws (standR gs) (flowsR rows ws (standR gs)) := by
  have n3 := h.n3
  have m6 := h.m6
  have wl := h.wl
  have W0 : sumR ws ≠ 0 := by have := h.W0; grind
  have wS := h.wSz
  have WS := h.WSz
  have shS := h.shSz
  have sS : ∀ s ∈ standR gs, Sz 10 s.2.1 ∧ Sz 10 s.2.2 := fun s hs => by
    obtain ⟨_, a, b⟩ := h.sb hs
    exact ⟨sz_of a.2.2 (Bt.of (B := 1) (by grind) a.2.1) (by decide) (by decide) (by decide), sz_of b.2.2 (Bt.of (B := 3) (by grind) b.2.1) (by decide) (by decide) (by decide)⟩
  have wA : ∀ s ∈ standR gs, Sz 10 ws[s.1]! := fun s hs => wS _ (get_mem (by rw [wl]; exact (h.sb hs).1))
  have iS : ∀ i : Int, i = 0 ∨ i = 1 → Sz 2 (i : Rat) := fun i hi => Sz.int (by decide) (by rcases hi with q | q <;> rw [q] <;> decide)
  have prS : ∀ p q : Nat, p < ws.length → q < ws.length → ∀ x ∈ (((goalsR ws (standR gs))[p]!).zip ((aheadsR (flowsR rows ws (standR gs)) (goalsR ws (standR gs)))[q]!)).map fun x => x.1 * x.2, Sz 819 x := fun p q hp hq x hx => by
    obtain ⟨y, hy, rfl⟩ := List.mem_map.mp hx
    obtain ⟨y1, y2⟩ := List.of_mem_zip hy
    exact (h.gSz (by rw [← wl]; exact hp) _ y1).mul (h.aheadSz c (by rw [← wl]; exact hq) _ y2)
  have prL : ∀ p q : Nat, p < ws.length → q < ws.length → ((((goalsR ws (standR gs))[p]!).zip ((aheadsR (flowsR rows ws (standR gs)) (goalsR ws (standR gs)))[q]!)).map fun x => x.1 * x.2).length ≤ 6 := fun p q hp hq => by
    rw [List.length_map, List.length_zip, goalsR_at hp, List.length_map]
    omega
  have smS : ∀ p q : Nat, p < ws.length → q < ws.length → Sz 7225 (sumR ((((goalsR ws (standR gs))[p]!).zip ((aheadsR (flowsR rows ws (standR gs)) (goalsR ws (standR gs)))[q]!)).map fun x => x.1 * x.2)) := fun p q hp hq => by
    have := prL p q hp hq
    exact (sz_sumR (prS p q hp hq)).mono (by omega)
  have boS : ∀ p q : Nat, p < ws.length → q < ws.length → Sz 7235 (bothR ws (goalsR ws (standR gs))[p]! (aheadsR (flowsR rows ws (standR gs)) (goalsR ws (standR gs)))[q]!) := fun p q hp hq => sz_div (smS p q hp hq) WS W0
  have shA : ∀ p, p < ws.length → Sz 4 (sharesR ws)[p]! := fun p hp => shS _ (get_mem (by rw [sharesR_len]; exact hp))
  refine ⟨by omega, by omega, fun s hs => by rw [wl]; exact (h.sb hs).1, FitsL.zero wS (by omega), fun x hx => (wS x hx).fitsO WS W0 (by decide), fun s hs => (wA s hs).fits (sS s hs).1 (by decide), fun s hs => ((wA s hs).mul (sS s hs).1).fits (sS s hs).2 (by decide), fun x hx i hi => (shS x hx).fits (iS i hi) (by decide), fun s hs x hx i hi => (((wA s hs).mul (sS s hs).1).mul (sS s hs).2).fits ((iS i hi).sub (shS x hx)) (by decide), h.ah c, fun p q hp hq x hx => ?_, fun p q hp hq => ?_, fun p q hp hq => (smS p q hp hq).fitsO WS W0 (by decide), fun p q hp hq => (boS p q hp hq).fits (Sz.int (n := 2) (by decide) (by decide)) (by decide), fun x hx y hy i hi => (shS x hx).fits ((iS i hi).sub (shS y hy)) (by decide), fun p q hp hq i hi => ((boS p q hp hq).mul (Sz.int (n := 2) (by decide) (by decide))).fits ((shA p hp).mul ((iS i hi).sub (shA q hq))) (by decide)⟩
  · obtain ⟨y1, y2⟩ := List.of_mem_zip hx
    exact (h.gSz (by rw [← wl]; exact hp) _ y1).fits (h.aheadSz c (by rw [← wl]; exact hq) _ y2) (by decide)
  · have := prL p q hp hq
    exact FitsL.zero (prS p q hp hq) (by omega)
theorem fposR {a b : St3} (ha : a ∈ standR gs) (hb : b ∈ standR gs) (hf : 0 < flowR rows ws a b) : 0 < (rows[a.1]!)[b.1]! ∧ 0 < (rows[b.1]!)[a.1]! := by
  have key : ∀ {a b : St3}, a ∈ standR gs → b ∈ standR gs → 0 < hereR rows ws a b → 0 < (rows[a.1]!)[b.1]! := fun {a b} ha hb h1 => by
    have c := (h.cb (h.sb ha).1 (h.sb hb).1).1
    rcases Rat.le_iff_lt_or_eq.mp c with q | q
    · exact q
    · exfalso
      unfold hereR at h1
      rw [← q, Rat.mul_zero] at h1
      revert h1; decide
  have ca := (h.sb ha).2.1.1
  have cb := (h.sb hb).2.1.1
  have cc : 0 < a.2.1 * b.2.1 := Rat.mul_pos ca cb
  have x := (h.hereB ha hb).1
  have y := (h.hereB hb ha).1
  unfold flowR at hf
  have pos : ∀ z : Rat, 0 ≤ z → 0 < a.2.1 * b.2.1 * z → 0 < z := fun z hz hp => by
    rcases Rat.le_iff_lt_or_eq.mp hz with q | q
    · exact q
    · rw [← q, Rat.mul_zero] at hp
      exact absurd hp (by decide)
  split at hf
  · next hlt =>
    have := pos _ x hf
    exact ⟨key ha hb this, key hb ha (by grind)⟩
  · next hlt =>
    have := pos _ y hf
    exact ⟨key ha hb (by grind), key hb ha this⟩
theorem conn2 (c : Conn (flowsR rows ws (standR gs))) : Conn2 rows := by
  intro S h0 hs
  have ml : (flowsR rows ws (standR gs)).length = (standR gs).length := flowsR_len _ _ _
  have m0 := h.m0
  have n2 := h.n2'
  have sy : ∀ i j, i < rows.length → j < rows.length → 0 < (rows[i]!)[j]! → 0 < (rows[j]!)[i]! → (S i ↔ S j) := fun i j hi hj p q => ⟨fun s => hs i j s hi hj p q, fun s => hs j i s hj hi q p⟩
  have all := c (fun i => S ((standR gs)[0]!).1 ↔ S ((standR gs)[i]!).1) Iff.rfl (fun i j hi hil hjl hf => by
    rw [ml] at hil hjl
    have ai : (standR gs)[i]! ∈ standR gs := get_mem hil
    have aj : (standR gs)[j]! ∈ standR gs := get_mem hjl
    have := flowsR_at (rows := rows) (ws := ws) hil hjl
    unfold fF at this
    rw [this] at hf
    by_cases e : i = j
    · rw [← e]; exact hi
    · rw [if_neg e] at hf
      obtain ⟨p, q⟩ := h.fposR ai aj hf
      exact hi.trans (sy _ _ (by rw [h.rl]; exact (h.sb ai).1) (by rw [h.rl]; exact (h.sb aj).1) p q))
  rw [ml] at all
  obtain ⟨i, hi, e⟩ := h.has (p := 0) (by omega)
  have r0 : S ((standR gs)[0]!).1 := (all i hi).mpr (by rw [e]; exact h0)
  intro p hp
  rw [h.rl] at hp
  obtain ⟨j, hj, e⟩ := h.has hp
  have := (all j hj).mp r0
  rwa [e] at this
theorem gt : GtP rows ws gs := by
  have n3 := h.n3
  have n2 := h.n2'
  have m6 := h.m6
  have rl := h.rl
  have xS : ∀ r ∈ rows, ∀ x ∈ r, Sz 20 x := fun r hr x hx => sz_of (isF_den (h.rx r hr x hx).2) (Bt.of (B := 1) (h.rx r hr x hx).1 (h.le1 r hr x hx)) (by decide) (by decide) (by decide)
  refine ⟨⟨by omega, by omega, fun r hr => by rw [rl]; exact h.rr r hr, fun r hr x hx => (h.rx r hr x hx).1, h.rs, fun r hr => FitsL.zero (xS r hr) (by rw [h.rr r hr]; omega)⟩, ⟨by rw [rl]; exact h.wl, by omega, fun x hx => (h.wx x hx).1⟩, by rw [rl]; exact h.gl, fun g hg => (h.g g hg).gp, ⟨rfl, fun r hr => by rw [rl]; exact h.rr r hr, by rw [rl]; exact h.wl, fun r hr x hx => (xS r hr x hx).mono (by decide), fun x hx => (h.wSz x hx).mono (by decide), by omega⟩, fun s hs => ?_, by omega, h.m0, fun c => h.tb (h.conn2 c)⟩
  obtain ⟨a, b, d⟩ := h.sb hs
  exact ⟨by rw [rl]; exact a, sz_of b.2.2 (Bt.of (B := 1) (by grind) b.2.1) (by decide) (by decide) (by decide), sz_of d.2.2 (Bt.of (B := 3) (by grind) d.2.1) (by decide) (by decide) (by decide)⟩
end GG
end
end Gw
/-! Plain: the law's own rows, weights, guesses. -/
namespace Gw
theorem gdG_rw : ∀ g ∈ rwGs, GdG (g.map handed) := by
  intro g hg
  unfold rwGs at hg
  simp only [List.mem_cons, List.not_mem_nil, or_false] at hg
  rcases hg with rfl | rfl | rfl | rfl | rfl
  · exact ⟨⟨by decide +kernel, by decide +kernel, by decide +kernel, by decide +kernel, by decide +kernel, by decide +kernel, fun p hp => by unfold Sz; revert p; decide +kernel⟩, by decide +kernel⟩
  · exact ⟨⟨by decide +kernel, by decide +kernel, by decide +kernel, by decide +kernel, by decide +kernel, by decide +kernel, fun p hp => by unfold Sz; revert p; decide +kernel⟩, by decide +kernel⟩
  · exact ⟨⟨by decide +kernel, by decide +kernel, by decide +kernel, by decide +kernel, by decide +kernel, by decide +kernel, fun p hp => by unfold Sz; revert p; decide +kernel⟩, by decide +kernel⟩
  · exact ⟨⟨by decide +kernel, by decide +kernel, by decide +kernel, by decide +kernel, by decide +kernel, by decide +kernel, fun p hp => by unfold Sz; revert p; decide +kernel⟩, by decide +kernel⟩
  · exact ⟨⟨by decide +kernel, by decide +kernel, by decide +kernel, by decide +kernel, by decide +kernel, by decide +kernel, fun p hp => by unfold Sz; revert p; decide +kernel⟩, by decide +kernel⟩
theorem gd_three : ∀ k, 1 ≤ k → k ≤ 11 → GdG ((gThree1 k).map handed) ∧ GdG ((gThree2 k).map handed) := by
  intro k h1 h2
  have hk : k = 1 ∨ k = 2 ∨ k = 3 ∨ k = 4 ∨ k = 5 ∨ k = 6 ∨ k = 7 ∨ k = 8 ∨ k = 9 ∨ k = 10 ∨ k = 11 := by omega
  rcases hk with rfl | rfl | rfl | rfl | rfl | rfl | rfl | rfl | rfl | rfl | rfl <;> exact ⟨⟨⟨by decide +kernel, by decide +kernel, by decide +kernel, by decide +kernel, by decide +kernel, by decide +kernel, fun p hp => by unfold Sz; revert p; decide +kernel⟩, by decide +kernel⟩, ⟨⟨by decide +kernel, by decide +kernel, by decide +kernel, by decide +kernel, by decide +kernel, by decide +kernel, fun p hp => by unfold Sz; revert p; decide +kernel⟩, by decide +kernel⟩⟩
theorem gdG_gu {g : RwG} (h : GuP g) : GdG (g.map handed) := by
  rcases h with h | ⟨k, h1, h2, h | h⟩
  · exact gdG_rw g h
  · rw [h]; exact (gd_three k h1 h2).1
  · rw [h]; exact (gd_three k h1 h2).2
theorem len_gu {g : RwG} (h : GuP g) : g.length ≤ 3 := by
  rcases h with h | ⟨k, h1, h2, h | h⟩
  · exact (by decide +kernel : ∀ g ∈ rwGs, g.length ≤ 3) g h
  · rw [h]; exact Nat.le_refl 3
  · rw [h]; exact Nat.le_refl 3
theorem len_rw : ∀ g ∈ rwGs, g.length ≤ 2 := by decide +kernel
theorem standR_range (gs : List (List (Rat × Rat))) : standR gs = (List.range gs.length).flatMap fun i => standOf (i, gs[i]!) := by
  unfold standR
  rw [List.flatMap_def]
  congr 1
  apply List.ext_getElem
  · simp [enumN_len]
  · intro i h1 h2
    have h3 : i < gs.length := by simpa [enumN_len] using h1
    simp [enumN, h3]
theorem stand_le (N : Nat) (gs : List (List (Rat × Rat))) (h : ∀ g ∈ gs, g.length ≤ N) : (standR gs).length ≤ N * gs.length := by
  rw [standR_range]
  have key : ∀ k, k ≤ gs.length → ((List.range k).flatMap fun i => standOf (i, gs[i]!)).length ≤ N * k := by
    intro k
    induction k with
    | zero => intro _; simp
    | succ k ih =>
      intro hk
      rw [List.range_succ, List.flatMap_append, List.length_append]
      have h1 := ih (by omega)
      have h2 := h _ (get_mem (xs := gs) (i := k) (by omega))
      have h3 : (standOf (k, gs[k]!)).length ≤ (gs[k]!).length := by
        unfold standOf
        rw [List.length_map]
        exact List.length_filter_le _ _
      simp only [List.flatMap_cons, List.flatMap_nil, List.append_nil]
      rw [Nat.mul_succ]
      omega
  exact key _ (Nat.le_refl _)
theorem gQ_at {gs : List RwG} {i : Nat} (h : i < gs.length) : (gQ gs)[i]! = (gs[i]!).map handed := by
  unfold gQ
  rw [getElem!_pos _ i (by simpa using h), List.getElem_map, getElem!_pos gs i h]
theorem wQ_at {ws : List Nat} {i : Nat} (h : i < ws.length) : (wQ ws)[i]! = ((ws[i]! : Nat) : Rat) := by
  unfold wQ
  rw [getElem!_pos _ i (by simpa using h), List.getElem_map, getElem!_pos ws i h]
  rfl
theorem S_nat (ws : List Nat) : S ws (fun x => ((x : Nat) : Rat)) = ((ws.sum : Nat) : Rat) := by
  induction ws with
  | nil => rfl
  | cons x ws ih => rw [S_cons, ih, List.sum_cons, Rat.natCast_add]
theorem sum_wQ (ws : List Nat) : sumR (wQ ws) = ((ws.sum : Nat) : Rat) := by
  unfold wQ
  rw [sumR_S, S_map, ← S_nat]
  rfl
theorem gg4 {n : Nat} {B : List (List Rat)} {ws : List Nat} {gs : List RwG} (n2 : n = 2 ∨ n = 3) (b : Good0 n B) (wl : ws.length = n) (w : ∀ x ∈ ws, 1 ≤ x ∧ x ≤ 4) (gl : gs.length = n) (g : ∀ g ∈ gs, GuN n g) : GG n B (wQ ws) (gQ gs) := by
  have sm : 0 < ws.sum ∧ ws.sum ≤ 4 * ws.length := by
    have key : ∀ l : List Nat, (∀ x ∈ l, 1 ≤ x ∧ x ≤ 4) → l.length ≤ l.sum ∧ l.sum ≤ 4 * l.length := by
      intro l
      induction l with
      | nil => intro _; simp
      | cons a l ih =>
        intro hl
        have := ih fun b hb => hl b (by simp [hb])
        have := hl a (by simp)
        rw [List.sum_cons, List.length_cons]
        omega
    have := key ws w
    omega
  have Kz : ((ws.sum : Nat) : Rat) ≠ 0 := by rw [Ne, Rat.natCast_eq_zero_iff]; omega
  refine ⟨n2, b.l, fun r hr => (b.r r hr).l, fun r hr x hx => (b.r r hr).x x hx, fun r hr => (b.r r hr).s, by simp [wQ, wl], fun x hx => ?_, ⟨ws.sum, sm.1, by omega, fun x hx => ?_, sum_wQ ws⟩, by simp [gQ, gl], fun g' hg' => ?_, ?_⟩
  · obtain ⟨k, hk, rfl⟩ := List.mem_map.mp hx
    have hk := w k hk
    have k1 : (1 : Rat) ≤ (((k : Nat) : Int) : Rat) := by
      have : ((1 : Nat) : Rat) ≤ ((k : Nat) : Rat) := Rat.natCast_le_natCast.mpr hk.1
      exact this
    have k4 : (((k : Nat) : Int) : Rat) ≤ 4 := by
      have : ((k : Nat) : Rat) ≤ ((4 : Nat) : Rat) := Rat.natCast_le_natCast.mpr hk.2
      exact this
    exact ⟨by grind, k4, by rw [Rat.den_intCast]; exact Nat.one_dvd 1⟩
  · obtain ⟨k, hk, rfl⟩ := List.mem_map.mp hx
    rw [sum_wQ]
    refine IsF.den ⟨(k : Int), ?_⟩ sm.1
    rw [Rat.div_mul_cancel Kz]
  · obtain ⟨g0, hg0, rfl⟩ := List.mem_map.mp hg'
    exact gdG_gu (g g0 hg0).1
  · have e : (gQ gs).length = n := by simp [gQ, gl]
    rcases n2 with q | q
    · have := stand_le 3 (gQ gs) fun g' hg' => by
        obtain ⟨g0, hg0, rfl⟩ := List.mem_map.mp hg'
        rw [List.length_map]
        exact len_gu (g g0 hg0).1
      omega
    · have := stand_le 2 (gQ gs) fun g' hg' => by
        obtain ⟨g0, hg0, rfl⟩ := List.mem_map.mp hg'
        rw [List.length_map]
        exact len_rw g0 ((g g0 hg0).2 q)
      omega
/-! ### rows drawn -/
theorem math_row (n : Nat) (xs : List Nat) (hn : n ≤ 3) (h : DrR n xs) : RowG n (rowQ xs) := by
  have hs := h.s
  have bd : 0 ≤ sumN xs ∧ sumN xs ≤ 2 * xs.length := sumN_le h.le
  have hl := h.l
  have s0 : 0 < sumN xs := by omega
  have s6 : sumN xs ≤ 6 := by omega
  have e1 : ∀ l : List Nat, S l (fun x => (((x : Nat) : Int) : Rat)) = ((sumN l : Int) : Rat) := by
    intro l
    induction l with
    | nil => rfl
    | cons x l ih =>
      rw [S_cons, ih]
      unfold sumN
      rw [List.map_cons, List.sum_cons, Rat.intCast_add]
  generalize hK : sumN xs = K at *
  refine ⟨by simp [rowQ, hl], fun x hx => ?_, ?_⟩
  · obtain ⟨k, hk, rfl⟩ := List.mem_map.mp hx
    rw [hK]
    constructor
    · exact (Rat.divInt_nonneg_iff_of_pos_right s0).mpr (by omega)
    · rw [Rat.den_divInt, if_neg (by omega)]
      have : K.natAbs / K.gcd (k : Int) ∣ K.natAbs := Nat.div_dvd_of_dvd (Nat.gcd_dvd_left _ _)
      refine Nat.dvd_trans this ?_
      have h1 : K.natAbs = 1 ∨ K.natAbs = 2 ∨ K.natAbs = 3 ∨ K.natAbs = 4 ∨ K.natAbs = 5 ∨ K.natAbs = 6 := by omega
      rcases h1 with e | e | e | e | e | e <;> rw [e] <;> decide
  · unfold rowQ
    rw [sumR_S, S_map, hK]
    have hz : ((K : Int) : Rat) ≠ 0 := by rw [Ne, Rat.intCast_eq_zero_iff]; omega
    have : S xs (fun b => Rat.divInt (b : Int) K) = S xs (fun b => (((b : Nat) : Int) : Rat)) * (((K : Int) : Rat))⁻¹ := by
      rw [← S_mulr]
      exact S_congr fun x _ => by rw [Rat.divInt_eq_div, Rat.div_def]
    rw [this, e1, hK, Rat.mul_inv_cancel _ hz]
end Gw
/-! Plain: one number that all heads of the steps divide. -/
namespace Gw
theorem bareR_dvd (row : List Int) (j : Nat) : (bareR row)[j]! ∣ row[j]! := by
  unfold bareR
  split
  · rw [vv_map (by simp)]
    by_cases hj : j < row.length
    · rw [getElem!_pos row j hj]
      obtain ⟨c, hc⟩ := gcdL_dvd (row := row) row[j] (List.getElem_mem hj)
      rw [hc, Int.mul_fdiv_cancel_left _ (by omega)]
      exact Int.dvd_mul_left _ _
    · rw [getElem!_neg row j hj]
      show Int.fdiv 0 _ ∣ (0 : Int)
      simp
  · exact Int.dvd_refl _
theorem cleared_head {r H : List Int} {k : Nat} (hl : r.length = H.length) (hk : vv H k ≠ 0) (hz : ∀ j, j < k → vv H j = 0) (h1 : headOf r < k) (h2 : vv r (headOf r) ≠ 0) : headOf (clearedR r H k) = headOf r ∧ (clearedR r H k)[headOf r]! ∣ H[k]! * r[headOf r]! := by
  obtain ⟨a, b, ha, e, _⟩ := clearedR_spec (row := r) (head := H) (p := k) hl hk
  have hlr : headOf r < r.length := vv_lt h2
  refine ⟨headOf_eq ?_ fun j hj => ?_, ?_⟩
  · rw [e, hz _ h1]
    intro q
    have : a * vv r (headOf r) = 0 := by grind
    rcases Rat.mul_eq_zero.mp this with q | q
    · exact ha q
    · exact h2 q
  · rw [e, hz j (by omega), (headOf_at hlr).2 j hj]
    grind
  · unfold clearedR
    split
    · exact Int.dvd_mul_left _ _
    · refine Int.dvd_trans (bareR_dvd _ _) ?_
      have hlH : headOf r < H.length := by omega
      have hz0 := vv_zero.mp (hz _ h1)
      rw [getElem!_pos H _ hlH] at hz0
      rw [getElem!_pos _ (headOf r) (by simp; omega), List.getElem_map, List.getElem_zip]
      show H[k]! * r[headOf r] - r[k]! * H[headOf r] ∣ _
      rw [hz0, Int.mul_zero, Int.sub_zero, getElem!_pos r _ hlr]
      exact Int.dvd_refl _
def eb (b : Nat) : Nat → Nat
  | 0 => 0
  | j + 1 => eb b j + bits b j
structure Piv (b : Nat) (s : St2) : Prop where
  ex : ∃ E : Nat, 0 < E ∧ E ≤ 2 ^ eb b s.found.length ∧ ∀ r ∈ s.found, (r[headOf r]!).natAbs ∣ E
theorem piv_step {A : List (List Int)} {M b n k : Nat} {s : St2} (I : Inv A M k s) (O : StOk M b n s) (hk : k < M) (P : Piv b s) : Piv b (stepI k s) := by
  unfold stepI
  split
  · rename_i i hi
    obtain ⟨hl, hne, _⟩ := findIdx_some hi
    have hm : s.left[i]! ∈ s.left := get_mem hl
    have hk0 : vv s.left[i]! k ≠ 0 := by
      rw [Ne, vv_zero, getElem!_pos s.left i hl]
      simpa using hne
    obtain ⟨g, hg, he⟩ := headedR_spec s.left[i]! k
    have hlen : (headedR s.left[i]! k).length = M := by rw [headedR_len]; exact I.len _ (List.mem_append_left _ hm)
    have hbd : Bd (bits b s.found.length) (headedR s.left[i]! k) := headedR_bd (O.l.bd _ hm) k
    generalize headedR s.left[i]! k = H at *
    have hHk : vv H k ≠ 0 := by
      rw [he]
      intro q
      rcases Rat.mul_eq_zero.mp q with q | q
      · exact hg q
      · exact hk0 q
    have hz : ∀ j, j < k → vv H j = 0 := fun j hj => by rw [he, I.zl _ hm j hj]; grind
    have hH : headOf H = k := headOf_eq hHk hz
    obtain ⟨E, E0, Eb, Ed⟩ := P.ex
    have h0 : (H[k]!).natAbs ≠ 0 := by
      intro q
      exact hHk (vv_zero.mpr (by omega))
    refine ⟨(H[k]!).natAbs * E, Nat.mul_pos (by omega) E0, ?_, fun r hr => ?_⟩
    · have fl : ((s.found.map fun r => clearedR r H k) ++ [H]).length = s.found.length + 1 := by simp
      show _ ≤ 2 ^ eb b ((s.found.map fun r => clearedR r H k) ++ [H]).length
      rw [fl]
      show _ ≤ 2 ^ (eb b s.found.length + bits b s.found.length)
      rw [Nat.pow_add, Nat.mul_comm]
      exact Nat.mul_le_mul Eb (Nat.le_of_lt (hbd.get (by rw [hlen]; exact hk)))
    · rcases List.mem_append.mp hr with q | q
      · obtain ⟨y, hy, rfl⟩ := List.mem_map.mp q
        obtain ⟨y1, y2⟩ := I.hd y hy
        obtain ⟨c1, c2⟩ := cleared_head (by rw [hlen]; exact I.len _ (List.mem_append_right _ hy)) hHk hz y1 y2
        rw [c1]
        have := Int.natAbs_dvd_natAbs.mpr c2
        rw [Int.natAbs_mul] at this
        exact Nat.dvd_trans this (Nat.mul_dvd_mul_left _ (Ed y hy))
      · rw [List.mem_singleton.mp q, hH]
        exact Nat.dvd_mul_right _ _
  · exact P
theorem piv_steps {A : List (List Int)} {M b : Nat} (h : Rect M b A) : ∀ k, k ≤ M → Piv b (stepsTo A k)
  | 0, _ => ⟨1, by decide, by simp [stepsTo, eb], fun r hr => by simp [stepsTo] at hr⟩
  | k + 1, hk => by
    rw [stepsTo_succ]
    exact piv_step (inv_steps h.len k) (stepsTo_ok h k (by omega)) (by omega) (piv_steps h k (by omega))
theorem eb_mono {b : Nat} : ∀ {j k : Nat}, j ≤ k → eb b j ≤ eb b k
  | j, 0, h => by have : j = 0 := by omega
                  subst this; exact Nat.le_refl _
  | j, k + 1, h => by
    by_cases e : j = k + 1
    · subst e; exact Nat.le_refl _
    · have := eb_mono (b := b) (j := j) (k := k) (by omega)
      show _ ≤ eb b k + bits b k
      omega
end Gw
/-! Plain: a guessed walk's table as a form: alike both ways, rows that add up to 0, no worth below 0. -/
namespace Gw
section
variable {m : Nat} {F : Nat → Nat → Rat}
theorem sq_nonneg (z : Rat) : 0 ≤ z * z := by
  rcases Rat.le_total (a := 0) (b := z) with q | q
  · exact Rat.mul_nonneg q q
  · have : 0 ≤ -z := by grind
    have := Rat.mul_nonneg this this
    grind
theorem lap_add (x y : Nat → Rat) (i : Nat) : lap m F (fun i => x i + y i) i = lap m F x i + lap m F y i := by
  unfold lap
  rw [← S_add]
  exact S_congr fun j _ => by grind
theorem lap_sub (x y : Nat → Rat) (i : Nat) : lap m F (fun i => x i - y i) i = lap m F x i - lap m F y i := by
  unfold lap
  rw [← S_sub]
  exact S_congr fun j _ => by grind
theorem lap_mix (n : Nat) (k : Nat → Rat) (x : Nat → Nat → Rat) (i : Nat) : lap m F (fun i => S (List.range n) fun q => k q * x q i) i = S (List.range n) fun q => k q * lap m F (x q) i := by
  unfold lap
  have : S (List.range n) (fun q => k q * S (List.range m) fun j => F i j * (x q i - x q j)) = S (List.range n) (fun q => S (List.range m) fun j => k q * (F i j * (x q i - x q j))) := S_congr fun q _ => by rw [S_mul]
  rw [this, S_swap]
  refine S_congr fun j _ => ?_
  rw [← S_sub, ← S_mul]
  exact S_congr fun q _ => by grind
/-- no worth below 0 -/
theorem energy_ge (h : ∀ i j, i < m → j < m → F i j = F j i) (hn : ∀ i j, i < m → j < m → 0 ≤ F i j) {μ t x : Nat → Rat} (hs : ∀ i, i < m → S (List.range m) (F i) ≤ μ i) (hx : ∀ i, i < m → lap m F x i = μ i * t i) : S (List.range m) (fun i => μ i * (t i * t i)) ≤ 2 * S (List.range m) (fun i => μ i * t i * x i) := by
  have e := lap_energy h x
  have e2 : S (List.range m) (fun i => x i * lap m F x i) = S (List.range m) (fun i => μ i * t i * x i) := S_congr fun i hi => by rw [hx i (List.mem_range.mp hi)]; grind
  rw [e2] at e
  rw [e]
  refine S_mono fun i hi => ?_
  have hi := List.mem_range.mp hi
  have p : 0 ≤ S (List.range m) fun j => F i j * ((x i - x j - t i) * (x i - x j - t i)) := S_nonneg fun j hj => Rat.mul_nonneg (hn i j hi (List.mem_range.mp hj)) (sq_nonneg _)
  have p2 : S (List.range m) (fun j => F i j * ((x i - x j - t i) * (x i - x j - t i))) = S (List.range m) (fun j => F i j * ((x i - x j) * (x i - x j))) - (2 * t i) * lap m F x i + (t i * t i) * S (List.range m) (F i) := by
    unfold lap
    rw [← S_mul, ← S_mul, ← S_sub, ← S_add]
    exact S_congr fun j _ => by grind
  rw [p2, hx i hi] at p
  have q := Rat.mul_le_mul_of_nonneg_left (hs i hi) (sq_nonneg (t i))
  grind
/-- what is ahead is the best of all heights -/
theorem var_max (h : ∀ i j, i < m → j < m → F i j = F j i) (hn : ∀ i j, i < m → j < m → 0 ≤ F i j) {g x : Nat → Rat} (hx : ∀ i, i < m → lap m F x i = g i) (y : Nat → Rat) : 2 * S (List.range m) (fun i => g i * y i) - S (List.range m) (fun i => y i * lap m F y i) ≤ S (List.range m) (fun i => g i * x i) := by
  have e := lap_energy h (fun i => x i - y i)
  have p : 0 ≤ S (List.range m) fun i => S (List.range m) fun j => F i j * ((x i - y i - (x j - y j)) * (x i - y i - (x j - y j))) := S_nonneg fun i hi => S_nonneg fun j hj => Rat.mul_nonneg (hn i j (List.mem_range.mp hi) (List.mem_range.mp hj)) (sq_nonneg _)
  rw [← e] at p
  have s := lap_sym h x y
  have e1 : S (List.range m) (fun i => (x i - y i) * lap m F (fun i => x i - y i) i) = S (List.range m) (fun i => g i * x i) - S (List.range m) (fun i => lap m F y i * x i) - S (List.range m) (fun i => g i * y i) + S (List.range m) (fun i => y i * lap m F y i) := by
    rw [← S_sub, ← S_sub, ← S_add]
    exact S_congr fun i hi => by rw [lap_sub, hx i (List.mem_range.mp hi)]; grind
  have e2 : S (List.range m) (fun i => y i * lap m F x i) = S (List.range m) (fun i => g i * y i) := S_congr fun i hi => by rw [hx i (List.mem_range.mp hi)]; grind
  rw [e1, s, e2] at p
  grind
end
/-! ### the table -/
def XX (rows : List (List Rat)) (ws : List Rat) (gs : List (List (Rat × Rat))) (q i : Nat) : Rat := ((aheadsR (flowsR rows ws (standR gs)) (goalsR ws (standR gs)))[q]!)[i]!
def gi (ws : List Rat) (gs : List (List (Rat × Rat))) (p i : Nat) : Rat := gf ws p (standR gs)[i]!
def UU (rows : List (List Rat)) (ws : List Rat) (gs : List (List (Rat × Rat))) (p q : Nat) : Rat := S (List.range (standR gs).length) fun i => gi ws gs p i * XX rows ws gs q i
def dl (p q : Nat) : Rat := if p = q then 1 else 0
def sh (ws : List Rat) (p : Nat) : Rat := (sharesR ws)[p]!
/-- the worth of a table of n places at k -/
def Qf (n : Nat) (T : List (List Rat)) (k : Nat → Rat) : Rat := S (List.range n) fun p => S (List.range n) fun q => k p * k q * (T[p]!)[q]!
section
variable {n : Nat} {rows : List (List Rat)} {ws : List Rat} {gs : List (List (Rat × Rat))}
theorem table_at {ws : List Rat} {ss : List St3} {flows : List (List Rat)} {p q : Nat} (hp : p < ws.length) (hq : q < ws.length) : ((tableR ws ss flows)[p]!)[q]! = cellR ws (goalsR ws ss) (aheadsR flows (goalsR ws ss)) p q := by
  unfold tableR
  rw [getElem!_pos _ p (by simpa using hp), List.getElem_map, List.getElem_range, getElem!_pos _ q (by simpa using hq), List.getElem_map, List.getElem_range]
theorem math_tl {n : Nat} {rows : List (List Rat)} {ws : List Rat} {gs : List (List (Rat × Rat))} (h : ws.length = n) : (guessedR rows ws gs).length = n ∧ ∀ r ∈ guessedR rows ws gs, r.length = n := by
  subst h
  unfold guessedR tableR
  refine ⟨by simp, fun r hr => ?_⟩
  obtain ⟨p, _, rfl⟩ := List.mem_map.mp hr
  simp
theorem gf_mass (ws : List Rat) (p : Nat) (a : St3) : gf ws p a = mass ws a * (dl a.1 p - sh ws p) := rfl
namespace GG
variable (h : GG n rows ws gs) (c : Conn2 rows)
include h c
theorem xsol {q i : Nat} (hq : q < n) (hi : i < (standR gs).length) : lap (standR gs).length (fF (flowsR rows ws (standR gs))) (XX rows ws gs q) i = gi ws gs q i := by
  have gl : (goalsR ws (standR gs)).length = n := by rw [goalsR_len, h.wl]
  have := (h.net c).solves (k := q) (by rw [gl]; exact hq) (i := i) (by rw [flowsR_len]; exact hi)
  rw [flowsR_len, goalsR_at2 (by rw [h.wl]; exact hq) hi] at this
  exact this
theorem fsym : ∀ i j, i < (standR gs).length → j < (standR gs).length → fF (flowsR rows ws (standR gs)) i j = fF (flowsR rows ws (standR gs)) j i := fun i j hi hj => (h.net c).symF i j (by rw [flowsR_len]; exact hi) (by rw [flowsR_len]; exact hj)
theorem fnn : ∀ i j, i < (standR gs).length → j < (standR gs).length → 0 ≤ fF (flowsR rows ws (standR gs)) i j := fun i j hi hj => (h.net c).nn i j (by rw [flowsR_len]; exact hi) (by rw [flowsR_len]; exact hj)
theorem usym {p q : Nat} (hp : p < n) (hq : q < n) : UU rows ws gs p q = UU rows ws gs q p := by
  have s := lap_sym (h.fsym c) (XX rows ws gs q) (XX rows ws gs p)
  rw [S_congr (g := fun i => gi ws gs p i * XX rows ws gs q i) fun i hi => by rw [h.xsol c hp (List.mem_range.mp hi)], S_congr (f := fun i => XX rows ws gs p i * _) (g := fun i => gi ws gs q i * XX rows ws gs p i) fun i hi => by rw [h.xsol c hq (List.mem_range.mp hi)]; grind] at s
  exact s
omit c in
theorem cell_eq {p q : Nat} (hp : p < n) (hq : q < n) : ((guessedR rows ws gs)[p]!)[q]! = UU rows ws gs p q / sumR ws * 2 - sh ws p * (dl p q - sh ws q) := by
  have gl : (goalsR ws (standR gs)).length = n := by rw [goalsR_len, h.wl]
  have hp' : p < ws.length := by rw [h.wl]; exact hp
  have hq' : q < ws.length := by rw [h.wl]; exact hq
  unfold guessedR
  rw [table_at hp' hq']
  unfold cellR bothR
  rw [zip_sum]
  · rw [goalsR_at hp', List.length_map]
    have e : S (List.range (standR gs).length) (fun i => ((standR gs).map (gf ws p))[i]! * ((aheadsR (flowsR rows ws (standR gs)) (goalsR ws (standR gs)))[q]!)[i]!) = UU rows ws gs p q := by
      refine S_congr fun i hi => ?_
      have hi := List.mem_range.mp hi
      rw [getElem!_pos _ i (by simpa using hi), List.getElem_map]
      unfold gi XX
      rw [getElem!_pos (standR gs) i hi]
    rw [e]
    rfl
  · rw [aheadsR_at (by rw [gl]; exact hq), flowsR_len, goalsR_at hp', List.length_map]
theorem tsym {p q : Nat} (hp : p < n) (hq : q < n) : ((guessedR rows ws gs)[p]!)[q]! = ((guessedR rows ws gs)[q]!)[p]! := by
  rw [h.cell_eq hp hq, h.cell_eq hq hp, h.usym c hp hq]
  unfold dl
  by_cases e : p = q
  · subst e; rfl
  · rw [if_neg e, if_neg fun z => e z.symm]; grind
omit c in
theorem shsum : S (List.range n) (sh ws) = 1 := h.shS
omit c in
theorem dsum {p : Nat} (hp : p < n) (k : Nat → Rat) : S (List.range n) (fun q => k q * dl p q) = k p := by
  rw [S_one (i := p) hp fun j _ hj => by unfold dl; rw [if_neg fun z => hj z.symm]; grind]
  unfold dl
  rw [if_pos rfl]; grind
omit c in
theorem gi0 {i : Nat} (hi : i < (standR gs).length) : S (List.range n) (fun q => gi ws gs q i) = 0 := by
  have a1 := (h.sb (s := (standR gs)[i]!) (get_mem hi)).1
  have e : S (List.range n) (fun q => gi ws gs q i) = mass ws (standR gs)[i]! * S (List.range n) (fun q => dl ((standR gs)[i]!).1 q - sh ws q) := by
    rw [← S_mul]
    exact S_congr fun q _ => gf_mass _ _ _
  rw [e, S_sub, h.shsum]
  have d := h.dsum a1 (fun _ => 1)
  rw [S_congr (g := fun q => dl ((standR gs)[i]!).1 q) fun q _ => by grind] at d
  rw [d]; grind
theorem trow {p : Nat} (hp : p < n) : S (List.range n) (fun q => ((guessedR rows ws gs)[p]!)[q]!) = 0 := by
  have e : S (List.range n) (fun q => ((guessedR rows ws gs)[p]!)[q]!) = S (List.range n) (fun q => UU rows ws gs p q) * ((sumR ws)⁻¹ * 2) - sh ws p * S (List.range n) (fun q => dl p q - sh ws q) := by
    rw [← S_mulr, ← S_mul, ← S_sub]
    refine S_congr fun q hq => ?_
    rw [h.cell_eq hp (List.mem_range.mp hq), Rat.div_def]; grind
  have u0 : S (List.range n) (fun q => UU rows ws gs p q) = 0 := by
    rw [S_congr fun q hq => h.usym c hp (List.mem_range.mp hq)]
    unfold UU
    rw [S_swap]
    refine S_zero' fun i hi => ?_
    rw [S_mulr, h.gi0 (List.mem_range.mp hi)]; grind
  have d := h.dsum hp (fun _ => 1)
  rw [S_congr (g := fun q => dl p q) fun q _ => by grind] at d
  rw [e, u0, S_sub, h.shsum, d]; grind
/-! ### its worths -/
omit c in
theorem gk {k : Nat → Rat} {i : Nat} (hi : i < (standR gs).length) : S (List.range n) (fun p => k p * gi ws gs p i) = mass ws (standR gs)[i]! * (k ((standR gs)[i]!).1 - S (List.range n) fun p => sh ws p * k p) := by
  have a1 := (h.sb (s := (standR gs)[i]!) (get_mem hi)).1
  have e : S (List.range n) (fun p => k p * gi ws gs p i) = mass ws (standR gs)[i]! * (S (List.range n) (fun p => k p * dl ((standR gs)[i]!).1 p) - S (List.range n) fun p => sh ws p * k p) := by
    rw [← S_sub, ← S_mul]
    refine S_congr fun p _ => ?_
    show k p * gf ws p _ = _
    rw [gf_mass]; grind
  rw [e, h.dsum a1 k]
omit c in
theorem msum (φ : Nat → Rat) : S (List.range (standR gs).length) (fun i => mass ws (standR gs)[i]! * φ ((standR gs)[i]!).1) = S (List.range n) (fun p => ws[p]! * φ p) := by
  rw [← S_range (standR gs) (fun a => mass ws a * φ a.1), ← h.gl, ← S_stand (fun g hg => (h.g g hg).gp) (fun p => ws[p]! * φ p)]
  exact S_congr fun a _ => by unfold mass; grind
omit c in
theorem vk (k : Nat → Rat) : sumR ws * S (List.range n) (fun p => S (List.range n) fun q => k p * k q * (sh ws p * (dl p q - sh ws q))) = S (List.range (standR gs).length) (fun i => mass ws (standR gs)[i]! * ((k ((standR gs)[i]!).1 - S (List.range n) fun p => sh ws p * k p) * (k ((standR gs)[i]!).1 - S (List.range n) fun p => sh ws p * k p))) := by
  rw [h.msum (fun p => (k p - S (List.range n) fun p => sh ws p * k p) * (k p - S (List.range n) fun p => sh ws p * k p))]
  generalize hkb : S (List.range n) (fun p => sh ws p * k p) = kb
  have e1 : S (List.range n) (fun p => S (List.range n) fun q => k p * k q * (sh ws p * (dl p q - sh ws q))) = S (List.range n) (fun p => sh ws p * (k p * k p)) - kb * kb := by
    have : S (List.range n) (fun p => S (List.range n) fun q => k p * k q * (sh ws p * (dl p q - sh ws q))) = S (List.range n) (fun p => sh ws p * (k p * k p) - sh ws p * k p * kb) := by
      refine S_congr fun p hp => ?_
      have : S (List.range n) (fun q => k p * k q * (sh ws p * (dl p q - sh ws q))) = sh ws p * k p * (S (List.range n) (fun q => k q * dl p q) - S (List.range n) fun q => sh ws q * k q) := by
        rw [← S_sub, ← S_mul]
        exact S_congr fun q _ => by grind
      rw [this, h.dsum (List.mem_range.mp hp) k, hkb]; grind
    rw [this, S_sub, S_mulr, hkb]
  have e2 : S (List.range n) (fun p => ws[p]! * ((k p - kb) * (k p - kb))) = sumR ws * (S (List.range n) (fun p => sh ws p * (k p * k p)) - kb * kb) := by
    have W0 := h.W0
    have hw : ∀ p, p < n → ws[p]! = sumR ws * sh ws p := fun p hp => by
      unfold sh
      rw [(h.sh_at hp).1, Rat.mul_comm, Rat.div_mul_cancel (by grind)]
    have : S (List.range n) (fun p => ws[p]! * ((k p - kb) * (k p - kb))) = sumR ws * (S (List.range n) (fun p => sh ws p * (k p * k p)) - (2 * kb) * S (List.range n) (fun p => sh ws p * k p) + (kb * kb) * S (List.range n) (sh ws)) := by
      rw [← S_mul, ← S_mul, ← S_sub, ← S_add, ← S_mul]
      exact S_congr fun p hp => by rw [hw p (List.mem_range.mp hp)]; grind
    rw [this, hkb, h.shsum]; grind
  rw [e1, e2]
omit c in
theorem quad (k : Nat → Rat) : sumR ws * Qf n (guessedR rows ws gs) k = 2 * S (List.range (standR gs).length) (fun i => S (List.range n) (fun p => k p * gi ws gs p i) * S (List.range n) (fun q => k q * XX rows ws gs q i)) - sumR ws * S (List.range n) (fun p => S (List.range n) fun q => k p * k q * (sh ws p * (dl p q - sh ws q))) := by
  have W0 := h.W0
  have e : Qf n (guessedR rows ws gs) k = S (List.range n) (fun p => S (List.range n) fun q => k p * k q * UU rows ws gs p q) * ((sumR ws)⁻¹ * 2) - S (List.range n) (fun p => S (List.range n) fun q => k p * k q * (sh ws p * (dl p q - sh ws q))) := by
    unfold Qf
    rw [← S_mulr, ← S_sub]
    refine S_congr fun p hp => ?_
    rw [← S_mulr, ← S_sub]
    refine S_congr fun q hq => ?_
    rw [h.cell_eq (List.mem_range.mp hp) (List.mem_range.mp hq), Rat.div_def]; grind
  have u : S (List.range n) (fun p => S (List.range n) fun q => k p * k q * UU rows ws gs p q) = S (List.range (standR gs).length) (fun i => S (List.range n) (fun p => k p * gi ws gs p i) * S (List.range n) (fun q => k q * XX rows ws gs q i)) := by
    have : ∀ p q, k p * k q * UU rows ws gs p q = S (List.range (standR gs).length) fun i => k p * gi ws gs p i * (k q * XX rows ws gs q i) := fun p q => by
      unfold UU
      rw [← S_mul]
      exact S_congr fun i _ => by grind
    rw [S_congr fun p _ => S_congr fun q _ => this p q]
    rw [S_congr (f := fun p => S (List.range n) fun q => S (List.range (standR gs).length) fun i => k p * gi ws gs p i * (k q * XX rows ws gs q i)) fun p _ => S_swap, S_swap]
    refine S_congr fun i _ => ?_
    rw [← S_mulr]
    refine S_congr fun p _ => ?_
    rw [S_mul]
  rw [e, u]
  have i1 := Rat.mul_inv_cancel (sumR ws) (by grind)
  grind
theorem xk (k : Nat → Rat) {i : Nat} (hi : i < (standR gs).length) : lap (standR gs).length (fF (flowsR rows ws (standR gs))) (fun i => S (List.range n) fun q => k q * XX rows ws gs q i) i = S (List.range n) fun p => k p * gi ws gs p i := by
  rw [lap_mix]
  exact S_congr fun q hq => by rw [h.xsol c (List.mem_range.mp hq) hi]
omit c in
theorem out_le2 {i : Nat} (hi : i < (standR gs).length) : S (List.range (standR gs).length) (fF (flowsR rows ws (standR gs)) i) ≤ mass ws (standR gs)[i]! := by
  have o := h.out_le (a := (standR gs)[i]!) (get_mem hi)
  refine Rat.le_trans ?_ o.1
  rw [S_range (standR gs)]
  refine S_mono fun j hj => ?_
  have hj := List.mem_range.mp hj
  rw [flowsR_at hi hj]
  split
  · exact (h.flowB (get_mem hi) (get_mem hj)).1
  · exact Rat.le_refl
theorem qf_nonneg (k : Nat → Rat) : 0 ≤ Qf n (guessedR rows ws gs) k := by
  have W0 := h.W0
  have q := h.quad k
  rw [h.vk k] at q
  have e := energy_ge (h.fsym c) (h.fnn c) (μ := fun i => mass ws (standR gs)[i]!) (t := fun i => k ((standR gs)[i]!).1 - S (List.range n) fun p => sh ws p * k p) (x := fun i => S (List.range n) fun q => k q * XX rows ws gs q i) (fun i hi => h.out_le2 hi) (fun i hi => by rw [h.xk c k hi, h.gk hi])
  have e2 : S (List.range (standR gs).length) (fun i => S (List.range n) (fun p => k p * gi ws gs p i) * S (List.range n) (fun q => k q * XX rows ws gs q i)) = S (List.range (standR gs).length) (fun i => mass ws (standR gs)[i]! * (k ((standR gs)[i]!).1 - S (List.range n) fun p => sh ws p * k p) * S (List.range n) (fun q => k q * XX rows ws gs q i)) := S_congr fun i hi => by rw [h.gk (List.mem_range.mp hi)]
  rw [e2] at q
  have pos : 0 ≤ sumR ws * Qf n (guessedR rows ws gs) k := by rw [q]; grind
  by_cases z : 0 ≤ Qf n (guessedR rows ws gs) k
  · exact z
  · exfalso
    have := Rat.mul_pos W0 (show 0 < -(Qf n (guessedR rows ws gs) k) by grind)
    grind
end GG
end
end Gw
/-! Plain: one denominator of all the table's numbers. -/
namespace Gw
theorem S2 (f : Nat → Rat) : S (List.range 2) f = f 0 + f 1 := by
  show S [0, 1] f = _
  rw [S_cons, S_cons, S_nil]; grind
theorem S3 (f : Nat → Rat) : S (List.range 3) f = f 0 + f 1 + f 2 := by
  show S [0, 1, 2] f = _
  rw [S_cons, S_cons, S_cons, S_nil]; grind
theorem Bt.mul {B C : Nat} {x y : Rat} (h : Bt B x) (k : Bt C y) : Bt (B * C) (x * y) := by
  obtain ⟨h1, h2⟩ := h
  obtain ⟨k1, k2⟩ := k
  unfold Bt
  rw [Rat.natCast_mul]
  have p1 := Rat.mul_nonneg (show 0 ≤ ((B : Nat) : Rat) - x by grind) (show 0 ≤ ((C : Nat) : Rat) - y by grind)
  have p2 := Rat.mul_nonneg (show 0 ≤ ((B : Nat) : Rat) + x by grind) (show 0 ≤ ((C : Nat) : Rat) + y by grind)
  have p3 := Rat.mul_nonneg (show 0 ≤ ((B : Nat) : Rat) - x by grind) (show 0 ≤ ((C : Nat) : Rat) + y by grind)
  have p4 := Rat.mul_nonneg (show 0 ≤ ((B : Nat) : Rat) + x by grind) (show 0 ≤ ((C : Nat) : Rat) - y by grind)
  constructor <;> grind
theorem Bt.add {B C : Nat} {x y : Rat} (h : Bt B x) (k : Bt C y) : Bt (B + C) (x + y) := by
  obtain ⟨h1, h2⟩ := h
  obtain ⟨k1, k2⟩ := k
  unfold Bt
  rw [Rat.natCast_add]
  constructor <;> grind
theorem Bt.neg {B : Nat} {x : Rat} (h : Bt B x) : Bt B (-x) := by
  obtain ⟨h1, h2⟩ := h
  constructor <;> grind
theorem Bt.sub {B C : Nat} {x y : Rat} (h : Bt B x) (k : Bt C y) : Bt (B + C) (x - y) := by
  rw [Rat.sub_eq_add_neg]; exact h.add k.neg
theorem Bt.up {B C : Nat} {x : Rat} (h : Bt B x) (k : B ≤ C) : Bt C x := by
  obtain ⟨h1, h2⟩ := h
  have := Rat.natCast_le_natCast.mpr k
  constructor <;> grind
theorem Bt.S {α : Type} {B : Nat} {l : List α} {f : α → Rat} (h : ∀ a ∈ l, Bt B (f a)) : Bt (l.length * B) (S l f) := by
  induction l with
  | nil => rw [S_nil]; exact ⟨by simp, by simp⟩
  | cons a l ih =>
    rw [S_cons, List.length_cons, Nat.succ_mul, Nat.add_comm]
    exact (h a (by simp)).add (ih fun b hb => h b (by simp [hb]))
theorem bt_01 {x : Rat} (h0 : 0 ≤ x) (h1 : x ≤ 1) : Bt 1 x := Bt.of h0 h1
theorem pw (a b : Nat) : (2 : Nat) ^ a * 2 ^ b = 2 ^ (a + b) := (Nat.pow_add 2 a b).symm
section
variable {n : Nat} {rows : List (List Rat)} {ws : List Rat} {gs : List (List (Rat × Rat))}
namespace GG
variable (h : GG n rows ws gs) (c : Conn2 rows)
include h c
/-- one number that all heads divide -/
theorem pivE : ∃ E : Nat, 0 < E ∧ E ≤ 2 ^ 770 ∧ ∀ r ∈ int_stepsR (lapA (flowsR rows ws (standR gs)) (goalsR ws (standR gs))), (r[headOf r]!).natAbs ∣ E := by
  have ml : (flowsR rows ws (standR gs)).length = (standR gs).length := flowsR_len _ _ _
  have m6 := h.m6
  have m0 := h.m0
  obtain ⟨e, En⟩ := (h.net c).ended
  have few := En.few
  rw [ml] at few
  have P := piv_steps h.rect.1 ((flowsR rows ws (standR gs)).length - 1) (by rw [ml]; omega)
  obtain ⟨E, E0, Eb, Ed⟩ := P.ex
  rw [← e] at Eb Ed
  refine ⟨E, E0, Nat.le_trans Eb (Nat.pow_le_pow_right (by omega) ?_), Ed⟩
  have : eb 24 (int_stepsR (lapA (flowsR rows ws (standR gs)) (goalsR ws (standR gs)))).length ≤ eb 24 5 := eb_mono (by omega)
  have e5 : eb 24 5 = 770 := by decide
  omega
theorem xz : ∃ E : Nat, 0 < E ∧ E ≤ 2 ^ 770 ∧ ∀ q i, q < n → i < (standR gs).length → IsF E (XX rows ws gs q i) ∧ Bt (2 ^ 799) (XX rows ws gs q i) := by
  obtain ⟨E, E0, Eb, Ed⟩ := h.pivE c
  have gl : (goalsR ws (standR gs)).length = n := by rw [goalsR_len, h.wl]
  have ml : (flowsR rows ws (standR gs)).length = (standR gs).length := flowsR_len _ _ _
  obtain ⟨s5, st⟩ := h.steps c
  refine ⟨E, E0, Eb, fun q i hq hi => ?_⟩
  have all : ∀ x ∈ (aheadsR (flowsR rows ws (standR gs)) (goalsR ws (standR gs)))[q]!, IsF E x ∧ Bt (2 ^ 799) x := by
    rw [getElem!_pos _ q (by rw [aheadsR_len, gl]; exact hq)]
    unfold aheadsR
    rw [List.getElem_map, List.getElem_range]
    unfold aheadOf
    refine fold_all (P := fun x => IsF E x ∧ Bt (2 ^ 799) x) (fun x hx => ?_) fun r hr => ?_
    · rw [List.eq_of_mem_replicate hx]
      exact ⟨isF_0 E, Bt.of Rat.le_refl Rat.natCast_nonneg⟩
    · unfold steps_ofR at hr
      obtain ⟨r, hr2, rfl⟩ := List.mem_map.mp hr
      obtain ⟨b, l, hd, h0⟩ := st r hr2
      have dv := Ed r hr2
      rw [told_at]
      have hnz : r[headOf r]! ≠ 0 := fun z => h0 (vv_zero.mpr z)
      have hl := vv_lt h0
      have bj : ∀ j : Nat, (r[j]!).natAbs < 2 ^ 799 := fun j => by
        by_cases z : j < r.length
        · exact b.get z
        · rw [getElem!_neg r j z]; exact Nat.two_pow_pos 799
      obtain ⟨w, hw⟩ := dv
      constructor
      · -- a divisor
        have hE : ∃ k : Int, (E : Int) = r[headOf r]! * k := by
          have d2 : r[headOf r]! ∣ (E : Int) := by
            rw [← Int.natAbs_dvd]
            exact Int.natCast_dvd_natCast.mpr ⟨w, hw⟩
          exact d2
        obtain ⟨k, hk⟩ := hE
        refine ⟨r[(flowsR rows ws (standR gs)).length + q]! * k, ?_⟩
        have eE : ((E : Nat) : Rat) = vv r (headOf r) * ((k : Int) : Rat) := by
          have : ((E : Nat) : Rat) = (((E : Nat) : Int) : Rat) := rfl
          rw [this, hk, Rat.intCast_mul]
          rfl
        rw [eE, Rat.intCast_mul]
        show vv r _ / vv r (headOf r) * (vv r (headOf r) * _) = vv r _ * _
        rw [← Rat.mul_assoc, Rat.div_mul_cancel h0]
      · -- its size
        have key : ∀ u v : Int, v ≠ 0 → u.natAbs < 2 ^ 799 → Bt (2 ^ 799) (((u : Int) : Rat) / ((v : Int) : Rat)) := fun u v hv hu => by
          have vz : ((v : Int) : Rat) ≠ 0 := by rw [Ne, Rat.intCast_eq_zero_iff]; exact hv
          have hb : Bt (2 ^ 799) ((u : Int) : Rat) := by
            constructor
            · have : (((-(2 ^ 799 : Nat) : Int)) : Rat) ≤ ((u : Int) : Rat) := Rat.intCast_le_intCast.mpr (by omega)
              rw [Rat.intCast_neg] at this
              exact this
            · have : ((u : Int) : Rat) ≤ ((((2 ^ 799 : Nat) : Int)) : Rat) := Rat.intCast_le_intCast.mpr (by omega)
              exact this
          have hi : Bt 1 (((v : Int) : Rat))⁻¹ := by
            rcases Int.lt_or_gt_of_ne hv with z | z
            · have z1 : ((v : Int) : Rat) ≤ ((-1 : Int) : Rat) := Rat.intCast_le_intCast.mpr (by omega)
              have z2 : ((-1 : Int) : Rat) = -1 := rfl
              rw [z2] at z1
              have inv := Rat.mul_inv_cancel _ vz
              generalize ((v : Int) : Rat) = a at *
              generalize a⁻¹ = b at *
              constructor
              · show -((1 : Nat) : Rat) ≤ b
                have : ((1 : Nat) : Rat) = 1 := rfl
                rw [this]
                by_cases y : -1 ≤ b
                · exact y
                · have := Rat.mul_nonneg (show 0 ≤ -1 - a by grind) (show 0 ≤ -1 - b by grind)
                  grind
              · show b ≤ ((1 : Nat) : Rat)
                have : ((1 : Nat) : Rat) = 1 := rfl
                rw [this]
                by_cases y : b ≤ 0
                · grind
                · have := Rat.mul_pos (show 0 < -a by grind) (show 0 < b by grind)
                  grind
            · have z1 : ((1 : Int) : Rat) ≤ ((v : Int) : Rat) := Rat.intCast_le_intCast.mpr (by omega)
              have z2 : ((1 : Int) : Rat) = 1 := rfl
              rw [z2] at z1
              have inv := Rat.mul_inv_cancel _ vz
              generalize ((v : Int) : Rat) = a at *
              generalize a⁻¹ = b at *
              constructor
              · show -((1 : Nat) : Rat) ≤ b
                have : ((1 : Nat) : Rat) = 1 := rfl
                rw [this]
                by_cases y : 0 ≤ b
                · grind
                · have := Rat.mul_pos (show 0 < a by grind) (show 0 < -b by grind)
                  grind
              · show b ≤ ((1 : Nat) : Rat)
                have : ((1 : Nat) : Rat) = 1 := rfl
                rw [this]
                by_cases y : b ≤ 1
                · exact y
                · have := Rat.mul_nonneg (show 0 ≤ a - 1 by grind) (show 0 ≤ b - 1 by grind)
                  grind
          have := hb.mul hi
          rw [Nat.mul_one] at this
          rw [Rat.div_def]
          exact this
        exact key _ _ hnz (bj _)
  have xl : ((aheadsR (flowsR rows ws (standR gs)) (goalsR ws (standR gs)))[q]!).length = (standR gs).length := by rw [aheadsR_at (by rw [gl]; exact hq), ml]
  exact all _ (get_mem (by rw [xl]; exact hi))
theorem cellz : ∃ D : Nat, 0 < D ∧ D < 2 ^ 785 ∧ ∀ p q, p < n → q < n → IsF D ((guessedR rows ws gs)[p]!)[q]! ∧ Bt (2 ^ 807) ((guessedR rows ws gs)[p]!)[q]! := by
  obtain ⟨E, E0, Eb, X⟩ := h.xz c
  obtain ⟨T, T0, T12, hT, hW⟩ := h.wt
  have m6 := h.m6
  have Tz : ((T : Nat) : Rat) ≠ 0 := by rw [Ne, Rat.natCast_eq_zero_iff]; omega
  have hD : 144 * T * E * T < 2 ^ 785 := by
    calc 144 * T * E * T ≤ 144 * 12 * 2 ^ 770 * 12 := Nat.mul_le_mul (Nat.mul_le_mul (Nat.mul_le_mul_left _ T12) Eb) T12
      _ = 20736 * 2 ^ 770 := by rw [Nat.mul_right_comm]
      _ < 2 ^ 15 * 2 ^ 770 := Nat.mul_lt_mul_of_pos_right (by decide) (Nat.two_pow_pos 770)
      _ = 2 ^ 785 := by rw [pw]
  refine ⟨144 * T * E * T, Nat.mul_pos (Nat.mul_pos (by omega) E0) T0, hD, fun p q hp hq => ?_⟩
  rw [h.cell_eq hp hq, hW]
  have u : ∀ i ∈ List.range (standR gs).length, IsF (144 * T * E) (gi ws gs p i * XX rows ws gs q i) ∧ Bt (12 * 2 ^ 799) (gi ws gs p i * XX rows ws gs q i) := fun i hi => by
    have hi := List.mem_range.mp hi
    obtain ⟨b, f⟩ := h.gfB hT (s := (standR gs)[i]!) (get_mem hi) hp
    obtain ⟨xf, xb⟩ := X q i hq hi
    exact ⟨f.mul xf, b.mul xb⟩
  have uF : IsF (144 * T * E) (UU rows ws gs p q) := IsF.S fun i hi => (u i hi).1
  have uB : Bt (72 * 2 ^ 799) (UU rows ws gs p q) := (Bt.S fun i hi => (u i hi).2).up (by
    rw [List.length_range]
    calc (standR gs).length * (12 * 2 ^ 799) ≤ 6 * (12 * 2 ^ 799) := Nat.mul_le_mul_right _ m6
      _ = 72 * 2 ^ 799 := by rw [← Nat.mul_assoc])
  have qF : IsF (144 * T * E * T) (UU rows ws gs p q / ((T : Nat) : Rat)) := by
    obtain ⟨t, ht⟩ := uF
    refine ⟨t, ?_⟩
    rw [Rat.natCast_mul, ← ht, Rat.mul_comm _ ((T : Nat) : Rat), ← Rat.mul_assoc, Rat.div_mul_cancel Tz]
  have qB : Bt (72 * 2 ^ 799) (UU rows ws gs p q / ((T : Nat) : Rat)) := by
    have t1 : (1 : Rat) ≤ ((T : Nat) : Rat) := by
      have : ((1 : Nat) : Rat) ≤ ((T : Nat) : Rat) := Rat.natCast_le_natCast.mpr (by omega)
      exact this
    have inv := Rat.mul_inv_cancel _ Tz
    have ip : 0 ≤ (((T : Nat) : Rat))⁻¹ := by
      have := Rat.inv_pos (a := ((T : Nat) : Rat))
      grind
    have i1 : (((T : Nat) : Rat))⁻¹ ≤ 1 := by
      generalize ((T : Nat) : Rat) = a at *
      generalize a⁻¹ = b at *
      by_cases y : b ≤ 1
      · exact y
      · have := Rat.mul_nonneg (show 0 ≤ a - 1 by grind) (show 0 ≤ b - 1 by grind)
        grind
    have := uB.mul (bt_01 ip i1)
    rw [Nat.mul_one] at this
    rw [Rat.div_def]
    exact this
  have s1 : ∀ p, p < n → IsF T (sh ws p) ∧ Bt 1 (sh ws p) := fun p hp => by
    obtain ⟨e, m⟩ := h.sh_at hp
    have b := h.shB m
    refine ⟨?_, bt_01 b.1 b.2⟩
    show IsF T (sharesR ws)[p]!
    rw [e]
    exact isF_den (hT _ (get_mem (by rw [h.wl]; exact hp)))
  have d1 : IsF T (dl p q) ∧ Bt 1 (dl p q) := by
    unfold dl
    split
    · exact ⟨isF_1 T, bt_01 (by decide) Rat.le_refl⟩
    · exact ⟨isF_0 T, bt_01 Rat.le_refl (by decide)⟩
  have v : IsF (T * T) (sh ws p * (dl p q - sh ws q)) ∧ Bt (1 * (1 + 1)) (sh ws p * (dl p q - sh ws q)) := ⟨(s1 p hp).1.mul (d1.1.sub (s1 q hq).1), (s1 p hp).2.mul (d1.2.sub (s1 q hq).2)⟩
  have two : IsF 1 (2 : Rat) ∧ Bt 2 (2 : Rat) := ⟨isF_int 1 2, ⟨by decide, by decide⟩⟩
  refine ⟨IsF.sub ?_ (v.1.up ?_), ((qB.mul two.2).sub v.2).up ?_⟩
  · have := qF.mul two.1
    rw [Nat.mul_one] at this
    exact this
  · refine Nat.mul_dvd_mul_right ?_ T
    rw [Nat.mul_comm 144 T, Nat.mul_assoc]
    exact Nat.dvd_mul_right _ _
  · have : (2 : Nat) ^ 807 = 256 * 2 ^ 799 := by rw [show (807 : Nat) = 8 + 799 by rfl, Nat.pow_add]
    rw [this]
    have p0 := Nat.two_pow_pos 799
    omega
end GG
end
end Gw
/-! Plain: rows cleared place by place, over Ratios. -/
namespace Gw
def ent (L : List (List Rat)) (i j : Nat) : Rat := (L[i]!)[j]!
def Kil (L : List (List Rat)) (M : Nat) (z : Nat → Rat) : Prop := ∀ i, i < L.length → S (List.range M) (fun j => ent L i j * z j) = 0
def Unt (L : List (List Rat)) (k : Nat) : Prop := ∀ i j, i < L.length → j < k → ent L i j = if i = j then 1 else 0
def Cm (d N : Nat) (x : Rat) : Prop := ∃ t : Int, x * ((d : Nat) : Rat) = (t : Rat) ∧ t.natAbs ≤ N
def CmL (L : List (List Rat)) (d N : Nat) : Prop := ∀ i, i < L.length → ∀ x ∈ L[i]!, Cm d N x
theorem Cm.sz {d N b : Nat} {x : Rat} (h : Cm d N x) (d0 : 0 < d) (hd : d ≤ 2 ^ b) (hN : N ≤ 2 ^ b) : Sz (b + 1) x := by
  obtain ⟨t, ht, hn⟩ := h
  have dz : ((d : Nat) : Rat) ≠ 0 := by rw [Ne, Rat.natCast_eq_zero_iff]; omega
  have e : x = Rat.divInt t (d : Int) := by
    rw [Rat.divInt_eq_div, ← ht]
    show x = x * ((d : Nat) : Rat) / (((d : Nat) : Int) : Rat)
    rw [Rat.div_def, Rat.mul_assoc]
    have : ((d : Nat) : Rat) * (((d : Nat) : Int) : Rat)⁻¹ = 1 := Rat.mul_inv_cancel _ dz
    rw [this, Rat.mul_one]
  have p : (2 : Nat) ^ b < 2 ^ (b + 1) := Nat.pow_lt_pow_right (by decide) (by omega)
  rw [e]
  exact ⟨Nat.lt_of_le_of_lt (num_le t d (by omega)) (by omega), Nat.lt_of_le_of_lt (den_le t d (by omega)) (by rw [Int.natAbs_natCast]; omega)⟩
section
variable {L : List (List Rat)} {n M k a : Nat}
theorem set_at {α : Type} [Inhabited α] {l : List α} {i j : Nat} {x : α} (hj : j < l.length) : (l.set i x)[j]! = if i = j then x else l[j]! := by
  rw [getElem!_pos _ j (by rw [List.length_set]; exact hj), List.getElem_set]
  split
  · rfl
  · rw [getElem!_pos l j hj]
theorem swp_at (hl : L.length = n) {i : Nat} (hi : i < n) : (swpR L k a)[i]! = if a = i then L[k]! else if k = i then L[a]! else L[i]! := by
  unfold swpR
  rw [set_at (by rw [List.length_set]; omega), set_at (by omega)]
theorem clr_at {T : List (List Rat)} {i : Nat} (hi : i < T.length) : (clrR T k)[i]! = rowS (hdR T k) k (i, T[i]!) := by
  unfold clrR
  rw [enumN_map, getElem!_pos _ i (by rw [List.length_map, List.length_range]; exact hi), List.getElem_map, List.getElem_range]
theorem hd_at {T : List (List Rat)} {j : Nat} (hj : j < (T[k]!).length) : (hdR T k)[j]! = ent T k j / ent T k k := by
  unfold hdR
  rw [getElem!_pos _ j (by rw [List.length_map]; exact hj), List.getElem_map]
  unfold ent
  rw [getElem!_pos (T[k]!) j hj]
theorem clr_ent {T : List (List Rat)} (hl : T.length = n) (hr : ∀ r ∈ T, r.length = M) (hk : k < n) {i j : Nat} (hi : i < n) (hj : j < M) : ent (clrR T k) i j = if i = k then ent T k j / ent T k k else ent T i j - ent T i k * (ent T k j / ent T k k) := by
  have lk : (T[k]!).length = M := hr _ (get_mem (by omega))
  have li : (T[i]!).length = M := hr _ (get_mem (by omega))
  have hh := hd_at (T := T) (k := k) (j := j) (by omega)
  show ((clrR T k)[i]!)[j]! = _
  rw [clr_at (by omega)]
  unfold rowS
  by_cases e : i = k
  · rw [if_pos e, if_pos e, hh]
  · rw [if_neg e, if_neg e]
    have lh : (hdR T k).length = M := by unfold hdR; rw [List.length_map]; exact lk
    have l2 : (i, T[i]!).2.length = M := li
    rw [getElem!_pos _ j (by rw [List.length_map, List.length_zip]; omega), List.getElem_map, List.getElem_zip]
    unfold ent at hh ⊢
    rw [← hh, getElem!_pos (T[i]!) j (by omega), getElem!_pos (hdR T k) j (by omega)]
/-- one place cleared -/
structure Stp (L : List (List Rat)) (n M k a : Nat) : Prop where
  l : L.length = n
  r : ∀ r ∈ L, r.length = M
  kn : k < n
  m : n ≤ M
  ka : k ≤ a
  an : a < n
  p : ent L a k ≠ 0
namespace Stp
variable (h : Stp L n M k a)
include h
theorem sl : (swpR L k a).length = n := by rw [swpR_len, h.l]
theorem sr : ∀ r ∈ swpR L k a, r.length = M := swpR_row (by rw [h.l]; exact h.kn) (by rw [h.l]; exact h.an) h.r
theorem sp : ent (swpR L k a) k k = ent L a k := by
  unfold ent
  rw [swp_at h.l h.kn]
  by_cases e : a = k
  · rw [if_pos e, e]
  · rw [if_neg e, if_pos rfl]
theorem pz : ent (swpR L k a) k k ≠ 0 := by rw [h.sp]; exact h.p
theorem cl : (clrR (swpR L k a) k).length = n := by rw [clrR_len, h.sl]
theorem cr : ∀ r ∈ clrR (swpR L k a) k, r.length = M := clrR_row (by rw [h.sl]; exact h.kn) h.sr
theorem kil {z : Nat → Rat} (hz : Kil (clrR (swpR L k a) k) M z) : Kil L M z := by
  have hS : ∀ i, i < n → S (List.range M) (fun j => ent (swpR L k a) i j * z j) = 0 := by
    have h0 : S (List.range M) (fun j => ent (swpR L k a) k j * z j) = 0 := by
      have := hz k (by rw [h.cl]; exact h.kn)
      rw [S_congr (g := fun j => (ent (swpR L k a) k k)⁻¹ * (ent (swpR L k a) k j * z j)) (fun j hj => by
        rw [clr_ent h.sl h.sr h.kn h.kn (List.mem_range.mp hj), if_pos rfl, Rat.div_def]
        grind), S_mul] at this
      rcases Rat.mul_eq_zero.mp this with q | q
      · have inv := Rat.mul_inv_cancel _ h.pz
        rw [q, Rat.mul_zero] at inv
        exact absurd inv (by decide)
      · exact q
    intro i hi
    by_cases e : i = k
    · rw [e]; exact h0
    · have := hz i (by rw [h.cl]; exact hi)
      rw [S_congr (g := fun j => ent (swpR L k a) i j * z j - (ent (swpR L k a) i k * (ent (swpR L k a) k k)⁻¹) * (ent (swpR L k a) k j * z j)) (fun j hj => by
        rw [clr_ent h.sl h.sr h.kn hi (List.mem_range.mp hj), if_neg e, Rat.div_def]
        grind), S_sub, S_mul, h0] at this
      grind
  intro i hi
  rw [h.l] at hi
  have ak := h.an
  have kn := h.kn
  by_cases e1 : i = a
  · have := hS k h.kn
    unfold ent at this ⊢
    rw [swp_at h.l h.kn] at this
    by_cases e2 : a = k
    · rw [if_pos e2] at this
      rw [e1, e2]; exact this
    · rw [if_neg e2, if_pos rfl] at this
      rw [e1]; exact this
  · by_cases e2 : i = k
    · have := hS a h.an
      unfold ent at this ⊢
      rw [swp_at h.l h.an, if_pos rfl] at this
      rw [e2]; exact this
    · have := hS i hi
      unfold ent at this ⊢
      rw [swp_at h.l hi, if_neg (fun e => e1 e.symm), if_neg (fun e => e2 e.symm)] at this
      exact this
theorem unt (u : Unt L k) : Unt (clrR (swpR L k a) k) (k + 1) := by
  have hl := h.l
  have us : ∀ i j, i < n → j < k → ent (swpR L k a) i j = if i = j then 1 else 0 := fun i j hi hj => by
    have k1 := u k j (by rw [hl]; exact h.kn) hj
    have a1 := u a j (by rw [hl]; exact h.an) hj
    have i1 := u i j (by rw [hl]; exact hi) hj
    have ka := h.ka
    unfold ent at k1 a1 i1 ⊢
    rw [swp_at hl hi]
    by_cases e1 : a = i
    · rw [if_pos e1, k1, if_neg (by omega), if_neg (by omega)]
    · rw [if_neg e1]
      by_cases e2 : k = i
      · rw [if_pos e2, a1, if_neg (by omega), if_neg (by omega)]
      · rw [if_neg e2, i1]
  have kM : k < M := by have := h.kn; have := h.m; omega
  intro i j hi hj
  rw [h.cl] at hi
  rw [clr_ent h.sl h.sr h.kn hi (by omega)]
  have inv := Rat.mul_inv_cancel _ h.pz
  have kk := h.kn
  by_cases e : i = k
  · rw [if_pos e]
    by_cases ej : j = k
    · rw [ej, Rat.div_def, inv, if_pos e]
    · rw [us k j h.kn (by omega), if_neg (by omega), if_neg (by omega), Rat.div_def, Rat.zero_mul]
  · rw [if_neg e]
    by_cases ej : j = k
    · rw [ej, Rat.div_def, inv, if_neg e]
      grind
    · rw [us k j h.kn (by omega), if_neg (by omega : ¬ k = j), us i j hi (by omega), Rat.div_def, Rat.zero_mul, Rat.mul_zero]
      grind
theorem scm {d N : Nat} (c : CmL L d N) : CmL (swpR L k a) d N := fun i hi x hx => by
  rw [h.sl] at hi
  have hl := h.l
  rw [swp_at hl hi] at hx
  have kn := h.kn
  have an := h.an
  split at hx
  · exact c k (by omega) x hx
  · split at hx
    · exact c a (by omega) x hx
    · exact c i (by omega) x hx
theorem cm {d b : Nat} (d0 : 0 < d) (hd : d ≤ 2 ^ b) (c : CmL L d (2 ^ b)) : ∃ d', 0 < d' ∧ d' ≤ 2 ^ (2 * b + 1) ∧ CmL (clrR (swpR L k a) k) d' (2 ^ (2 * b + 1)) := by
  have cs := h.scm c
  have kn := h.kn
  have at_ : ∀ i j, i < n → j < M → Cm d (2 ^ b) (ent (swpR L k a) i j) := fun i j hi hj => cs i (by rw [h.sl]; exact hi) _ (get_mem (by rw [h.sr _ (get_mem (by rw [h.sl]; exact hi))]; exact hj))
  have kM : k < M := by have := h.m; omega
  obtain ⟨tp, etp, btp⟩ := at_ k k h.kn kM
  have pz := h.pz
  have dz : ((d : Nat) : Rat) ≠ 0 := by rw [Ne, Rat.natCast_eq_zero_iff]; omega
  have tz : tp ≠ 0 := fun e => by
    rw [e] at etp
    exact q_mul_ne pz dz etp
  have e2 : (2 : Nat) ^ (2 * b) = 2 ^ b * 2 ^ b := by rw [← Nat.pow_add]; congr 1; omega
  have e3 : (2 : Nat) ^ (2 * b + 1) = 2 * (2 ^ b * 2 ^ b) := by rw [Nat.pow_succ, e2, Nat.mul_comm]
  have sg : ((tp.natAbs : Nat) : Rat) = ((tp.sign : Int) : Rat) * ((tp : Int) : Rat) := by
    have e : tp.sign * tp = (tp.natAbs : Int) := by
      rcases Int.lt_trichotomy tp 0 with q | q | q
      · rw [Int.sign_eq_neg_one_of_neg q]; omega
      · exact absurd q tz
      · rw [Int.sign_eq_one_of_pos q]; omega
    rw [← Rat.intCast_mul, e]
    rfl
  have inv := Rat.mul_inv_cancel _ pz
  have ds : ((d * tp.natAbs : Nat) : Rat) = ((d : Nat) : Rat) * (((tp.sign : Int) : Rat) * ((tp : Int) : Rat)) := by rw [Rat.natCast_mul, sg]
  have sa : tp.sign.natAbs = 1 := by
    rw [Int.natAbs_sign]
    simp [tz]
  refine ⟨d * tp.natAbs, Nat.mul_pos d0 (by omega), ?_, fun i hi x hx => ?_⟩
  · rw [e3]
    have := Nat.mul_le_mul hd btp
    omega
  · rw [h.cl] at hi
    obtain ⟨j, hj, ej⟩ := List.mem_iff_getElem.mp hx
    have hjM : j < M := by rw [h.cr _ (get_mem (by rw [h.cl]; exact hi))] at hj; exact hj
    have ex : x = ent (clrR (swpR L k a) k) i j := by
      unfold ent
      rw [getElem!_pos _ j hj, ej]
    rw [ex, clr_ent h.sl h.sr h.kn hi hjM]
    obtain ⟨tx, etx, btx⟩ := at_ k j h.kn hjM
    have key : ∀ y : Rat, y / ent (swpR L k a) k k * (((d : Nat) : Rat) * (((tp.sign : Int) : Rat) * ((tp : Int) : Rat))) = y * ((d : Nat) : Rat) * ((tp.sign : Int) : Rat) * ((d : Nat) : Rat) := fun y => by
      rw [← etp, Rat.div_def]
      grind
    split
    · refine ⟨tx * tp.sign * d, ?_, ?_⟩
      · rw [ds, key, etx, Rat.intCast_mul, Rat.intCast_mul]
        rfl
      · rw [Int.natAbs_mul, Int.natAbs_mul, sa, Nat.mul_one, Int.natAbs_natCast, e3]
        have := Nat.mul_le_mul btx hd
        omega
    · obtain ⟨ty, ety, bty⟩ := at_ i j hi hjM
      obtain ⟨tr, etr, btr⟩ := at_ i k hi kM
      refine ⟨ty * tp.sign * tp - tr * tx * tp.sign, ?_, ?_⟩
      · rw [ds, Rat.intCast_sub, Rat.intCast_mul, Rat.intCast_mul, Rat.intCast_mul, Rat.intCast_mul, ← ety, ← etr, ← etx]
        have := key (ent (swpR L k a) k j)
        grind
      · have h1 : (ty * tp.sign * tp).natAbs ≤ 2 ^ b * 2 ^ b := by
          rw [Int.natAbs_mul, Int.natAbs_mul, sa, Nat.mul_one]
          exact Nat.mul_le_mul bty btp
        have h2 : (tr * tx * tp.sign).natAbs ≤ 2 ^ b * 2 ^ b := by
          rw [Int.natAbs_mul, Int.natAbs_mul, sa, Nat.mul_one]
          exact Nat.mul_le_mul btr btx
        rw [e3]
        omega
end Stp
end
end Gw
/-! Plain: rows cleared place by place, over Ratios: each place has a head, the end solves. -/
namespace Gw
def b2 (b : Nat) : Nat → Nat
  | 0 => b
  | k + 1 => 2 * b2 b k + 1
theorem b2_mono {b j k : Nat} (h : j ≤ k) : b2 b j ≤ b2 b k := by
  induction h with
  | refl => exact Nat.le_refl _
  | step _ ih => show _ ≤ 2 * _ + 1; omega
/-- what is to be solved: only 0 is led to 0 -/
structure Sys (rows goals : List (List Rat)) (b : Nat) : Prop where
  rr : ∀ r ∈ rows, r.length = rows.length
  gr : ∀ g ∈ goals, rows.length ≤ g.length
  tr : ∀ z : Nat → Rat, (∀ i, i < rows.length → S (List.range rows.length) (fun j => ent rows i j * z j) = 0) → ∀ j, j < rows.length → z j = 0
  cm : ∃ d, 0 < d ∧ d ≤ 2 ^ b ∧ CmL (lf0 rows goals) d (2 ^ b)
section
variable {rows goals : List (List Rat)} {b : Nat}
theorem lf0_at {i : Nat} (hi : i < rows.length) : (lf0 rows goals)[i]! = rows[i]! ++ goals.map fun g => g[i]! := by
  unfold lf0
  rw [enumN_map, getElem!_pos _ i (by rw [List.length_map, List.length_range]; exact hi), List.getElem_map, List.getElem_range]
namespace Sys
variable (h : Sys rows goals b)
include h
theorem lo {i j : Nat} (hi : i < rows.length) (hj : j < rows.length) : ent (lf0 rows goals) i j = ent rows i j := by
  have hl := h.rr _ (get_mem hi)
  unfold ent
  rw [lf0_at hi, getElem!_pos _ j (by rw [List.length_append, List.length_map]; omega), List.getElem_append_left (by omega), getElem!_pos _ j (by omega)]
theorem hi' {i c : Nat} (hi : i < rows.length) (hc : c < goals.length) : ent (lf0 rows goals) i (rows.length + c) = (goals[c]!)[i]! := by
  have hl := h.rr _ (get_mem hi)
  unfold ent
  rw [lf0_at hi, getElem!_pos _ (rows.length + c) (by rw [List.length_append, List.length_map]; omega), List.getElem_append_right (by omega)]
  have e : rows.length + c - (rows[i]!).length = c := by omega
  simp only [e, List.getElem_map]
  rw [getElem!_pos goals c hc]
theorem ll : ∀ r ∈ lf0 rows goals, r.length = rows.length + goals.length := by
  intro r hr
  obtain ⟨q, hq, rfl⟩ := List.mem_map.mp hr
  rw [List.length_append, List.length_map, h.rr _ (List.mem_of_getElem? (mem_enumN hq).2)]
/-- how it stands behind k places -/
structure At (rows goals : List (List Rat)) (b k : Nat) : Prop where
  r : ∀ r ∈ solS rows goals k, r.length = rows.length + goals.length
  u : Unt (solS rows goals k) k
  z : ∀ z, Kil (solS rows goals k) (rows.length + goals.length) z → Kil (lf0 rows goals) (rows.length + goals.length) z
  c : ∃ d, 0 < d ∧ d ≤ 2 ^ b2 b k ∧ CmL (solS rows goals k) d (2 ^ b2 b k)
theorem at0 : At rows goals b 0 := ⟨h.ll, fun i j _ hj => by omega, fun z hz => hz, h.cm⟩
theorem piv {k : Nat} (hk : k < rows.length) (A : At rows goals b k) : ∃ a, k ≤ a ∧ a < rows.length ∧ ent (solS rows goals k) a k ≠ 0 := by
  by_cases e : ∃ a, k ≤ a ∧ a < rows.length ∧ ent (solS rows goals k) a k ≠ 0
  · exact e
  · exfalso
    have hl := solS_len rows goals k
    have az : ∀ a, k ≤ a → a < rows.length → ent (solS rows goals k) a k = 0 := fun a h1 h2 => by
      by_cases q : ent (solS rows goals k) a k = 0
      · exact q
      · exact absurd ⟨a, h1, h2, q⟩ e
    let z (j : Nat) : Rat := if j = k then 1 else if j < k then - ent (solS rows goals k) j k else 0
    have zk : z k = 1 := if_pos rfl
    have zl : ∀ j, j < k → z j = - ent (solS rows goals k) j k := fun j hj => by show (if j = k then _ else _) = _; rw [if_neg (by omega), if_pos hj]
    have zh : ∀ j, k < j → z j = 0 := fun j hj => by show (if j = k then _ else _) = _; rw [if_neg (by omega), if_neg (by omega)]
    have kz : Kil (solS rows goals k) (rows.length + goals.length) z := by
      intro i hi
      rw [hl] at hi
      have e1 : rows.length + goals.length = (k + 1) + (rows.length + goals.length - (k + 1)) := by omega
      rw [e1, S_split, S_zero' (l := List.range (rows.length + goals.length - (k + 1))) (fun j _ => by rw [zh _ (by omega), Rat.mul_zero]), List.range_succ, S_app, S_cons, S_nil, zk]
      by_cases hik : i < k
      · rw [S_one (i := i) hik (fun j hj hne => by rw [A.u i j (by rw [hl]; exact hi) hj, if_neg (fun e => hne e.symm), Rat.zero_mul]), A.u i i (by rw [hl]; exact hi) hik, if_pos rfl, zl i hik]
        grind
      · rw [S_zero' (fun j hj => by rw [A.u i j (by rw [hl]; exact hi) (List.mem_range.mp hj), if_neg (by have := List.mem_range.mp hj; omega), Rat.zero_mul]), az i (by omega) hi]
        grind
    have k0 := A.z z kz
    have t := h.tr z (fun i hi => by
      have := k0 i (by rw [lf0_len]; exact hi)
      rw [S_split, S_zero' (l := List.range goals.length) (fun j _ => by rw [zh _ (by omega), Rat.mul_zero])] at this
      rw [S_congr (g := fun j => ent (lf0 rows goals) i j * z j) (fun j hj => by rw [h.lo hi (List.mem_range.mp hj)])]
      grind) k hk
    rw [zk] at t
    exact absurd t (by decide)
theorem pv {k : Nat} (hk : k < rows.length) (A : At rows goals b k) : pivL (solS rows goals k) rows.length k ≠ [] ∧ Stp (solS rows goals k) rows.length (rows.length + goals.length) k (pivL (solS rows goals k) rows.length k)[0]! := by
  obtain ⟨a, a1, a2, a3⟩ := h.piv hk A
  have hm : a ∈ pivL (solS rows goals k) rows.length k := mem_pivL.mpr ⟨⟨a1, a2⟩, a3⟩
  have hne : pivL (solS rows goals k) rows.length k ≠ [] := fun e => by rw [e] at hm; exact absurd hm (by simp)
  have h0 : (pivL (solS rows goals k) rows.length k)[0]! ∈ pivL (solS rows goals k) rows.length k := get_mem (List.length_pos_iff.mpr hne)
  obtain ⟨⟨b1, b2⟩, b3⟩ := mem_pivL.mp h0
  exact ⟨hne, solS_len rows goals k, A.r, hk, by omega, b1, b2, b3⟩
theorem step {k : Nat} (hk : k < rows.length) (A : At rows goals b k) : At rows goals b (k + 1) := by
  obtain ⟨_, T⟩ := h.pv hk A
  have e : solS rows goals (k + 1) = clrR (swpR (solS rows goals k) k (pivL (solS rows goals k) rows.length k)[0]!) k := by
    rw [solS_succ]
    unfold stS
    rw [solS_len]
  obtain ⟨d, d0, hd, c⟩ := A.c
  obtain ⟨d', p0, p1, p2⟩ := T.cm d0 hd c
  refine ⟨?_, ?_, ?_, d', p0, p1, ?_⟩
  · rw [e]; exact T.cr
  · rw [e]; exact T.unt A.u
  · intro z hz
    rw [e] at hz
    exact A.z z (T.kil hz)
  · rw [e]; exact p2
theorem all : ∀ k, k ≤ rows.length → At rows goals b k := by
  intro k
  induction k with
  | zero => intro _; exact h.at0
  | succ k ih => intro hk; exact h.step (by omega) (ih (by omega))
theorem sol_at {c i : Nat} (hc : c < goals.length) (hi : i < rows.length) : ((solR rows goals)[c]!)[i]! = ent (solS rows goals rows.length) i (rows.length + c) := by
  unfold solR
  rw [getElem!_pos _ c (by rw [List.length_map, List.length_range]; exact hc), List.getElem_map, List.getElem_range, getElem!_pos _ i (by rw [List.length_map, List.length_range]; exact hi), List.getElem_map, List.getElem_range]
  rfl
theorem solves {c : Nat} (hc : c < goals.length) {i : Nat} (hi : i < rows.length) : S (List.range rows.length) (fun j => ent rows i j * ((solR rows goals)[c]!)[j]!) = (goals[c]!)[i]! := by
  have A := h.all rows.length (Nat.le_refl _)
  have hl := solS_len rows goals rows.length
  let z (j : Nat) : Rat := if j < rows.length then ent (solS rows goals rows.length) j (rows.length + c) else if j = rows.length + c then -1 else 0
  have zl : ∀ j, j < rows.length → z j = ent (solS rows goals rows.length) j (rows.length + c) := fun j hj => if_pos hj
  have zc : z (rows.length + c) = -1 := by show (if _ then _ else _) = _; rw [if_neg (by omega), if_pos rfl]
  have zo : ∀ q, q ≠ c → z (rows.length + q) = 0 := fun q hq => by show (if _ then _ else _) = _; rw [if_neg (by omega), if_neg (by omega)]
  have kz : Kil (solS rows goals rows.length) (rows.length + goals.length) z := by
    intro i hi
    rw [hl] at hi
    rw [S_split, S_one (i := i) hi (fun j hj hne => by rw [A.u i j (by rw [hl]; exact hi) hj, if_neg (fun e => hne e.symm), Rat.zero_mul]), S_one (i := c) hc (fun q hq hne => by rw [zo q hne, Rat.mul_zero]), A.u i i (by rw [hl]; exact hi) hi, if_pos rfl, zl i hi, zc]
    grind
  have k0 := A.z z kz i (by rw [lf0_len]; exact hi)
  rw [S_split, S_one (i := c) hc (fun q hq hne => by rw [zo q hne, Rat.mul_zero]), zc, h.hi' hi hc] at k0
  rw [S_congr (g := fun j => ent (lf0 rows goals) i j * z j) (fun j hj => by
    have hj := List.mem_range.mp hj
    rw [h.lo hi hj, zl j hj, h.sol_at hc hj])]
  grind
theorem sol_cm : ∃ d, 0 < d ∧ d ≤ 2 ^ b2 b rows.length ∧ ∀ c i, c < goals.length → i < rows.length → Cm d (2 ^ b2 b rows.length) ((solR rows goals)[c]!)[i]! := by
  have A := h.all rows.length (Nat.le_refl _)
  obtain ⟨d, d0, hd, cm⟩ := A.c
  refine ⟨d, d0, hd, fun c i hc hi => ?_⟩
  rw [h.sol_at hc hi]
  have hl := solS_len rows goals rows.length
  exact cm i (by rw [hl]; exact hi) _ (get_mem (by rw [A.r _ (get_mem (by rw [hl]; exact hi))]; omega))
theorem slv (hn : rows.length ≤ 5) (hg : goals.length ≤ 20) (hb : b ≤ 100) : SlvP rows goals := by
  have bk : ∀ k, k < rows.length → b2 b k ≤ 1615 := fun k hk => by
    have := b2_mono (b := b) (show k ≤ 4 by omega)
    have e : b2 b 4 = 2 * (2 * (2 * (2 * b + 1) + 1) + 1) + 1 := rfl
    omega
  refine ⟨by omega, h.rr, by omega, h.gr, fun k hk => (h.pv hk (h.all k (by omega))).1, fun k hk L hL one ho => ?_, fun k hk L hL r hr t ht => ?_⟩
  · obtain ⟨_, T⟩ := h.pv hk (h.all k (by omega))
    obtain ⟨d, d0, hd, c⟩ := (h.all k (by omega)).c
    have cs := T.scm c
    have hp := T.pz
    have hsl := T.sl
    have hsr := T.sr
    rw [← hL] at cs hp hsl hsr
    have hb4 := bk k hk
    have s1 := (cs k (by omega) one ho).sz d0 hd (Nat.le_refl _)
    have s2 := (cs k (by omega) _ (get_mem (xs := L[k]!) (i := k) (by rw [hsr _ (get_mem (by omega))]; omega))).sz d0 hd (Nat.le_refl _)
    exact s1.fitsO s2 hp (by omega)
  · obtain ⟨_, T⟩ := h.pv hk (h.all k (by omega))
    obtain ⟨d, d0, hd, c⟩ := (h.all k (by omega)).c
    obtain ⟨d', e0, e1, e2⟩ := T.cm d0 hd c
    have cs := T.scm c
    have hsl := T.sl
    have hsr := T.sr
    rw [← hL] at cs hsl hsr e2
    have hb4 := bk k hk
    obtain ⟨i, hi, rfl⟩ := List.mem_iff_getElem.mp hr
    have er : L[i] = L[i]! := (getElem!_pos L i hi).symm
    obtain ⟨t1, t2⟩ := List.of_mem_zip (show (t.1, t.2) ∈ _ from ht)
    rw [er] at t1 ⊢
    have s1 := (cs i (by omega) _ t1).sz d0 hd (Nat.le_refl _)
    have s2 := (cs i (by omega) _ (get_mem (xs := L[i]!) (i := k) (by rw [hsr _ (get_mem (by omega))]; omega))).sz d0 hd (Nat.le_refl _)
    have hh : hdR L k = (clrR L k)[k]! := by
      rw [clr_at (by omega)]
      unfold rowS
      rw [if_pos rfl]
    rw [hh] at t2
    have s3 := (e2 k (by rw [clrR_len]; omega) _ t2).sz e0 e1 (Nat.le_refl _)
    exact ⟨s2.fits s3 (by omega), s1.fits (s2.mul s3) (by omega)⟩
end Sys
end
end Gw
/-! Plain: the law's own walk of standings beside the program's flows. -/
namespace Gw
def upS (s : Sw) : St3 := (s.1, s.2.1, Rat.divInt (s.2.2 : Int) 12)
theorem up_pos (k : Nat) : decide (0 < Rat.divInt (k : Int) 12) = decide (0 < k) := by
  rw [decide_eq_decide, Rat.divInt_eq_div]
  have e : (((12 : Int) : Rat)) = 12 := rfl
  rw [e, Rat.div_def]
  constructor
  · intro h
    rcases Nat.eq_zero_or_pos k with q | q
    · have z : (((k : Nat) : Int) : Rat) = 0 := by rw [q]; rfl
      rw [z, Rat.zero_mul] at h
      exact absurd h (by decide)
    · exact q
  · intro h
    have : (0 : Rat) < ((k : Int) : Rat) := by
      have : ((0 : Int) : Rat) < ((k : Int) : Rat) := Rat.intCast_lt_intCast.mpr (by omega)
      exact this
    exact Rat.mul_pos this (Rat.inv_pos.mpr (by decide))
theorem stand_up (gs : List RwG) : standR (gQ gs) = (swR gs).map upS := by
  unfold standR swR gQ
  rw [List.map_flatten, List.map_map]
  congr 1
  apply List.ext_getElem
  · simp [enumN_len]
  · intro i h1 h2
    have hi : i < gs.length := by simpa [enumN_len] using h1
    simp only [List.getElem_map, enumN, List.getElem_zipIdx, Function.comp, Nat.zero_add]
    unfold standOf swOf
    simp only [List.map_map, List.filter_map]
    have : ((fun p : Rat × Rat => decide (0 < p.2)) ∘ handed) = fun p : Rat × Nat => decide (0 < p.2) := by
      funext p
      exact up_pos p.2
    rw [this]
    rfl
section
variable {n : Nat} {B : List (List Rat)} {ws : List Nat} {gs : List RwG}
namespace Cas3
variable (C : Cas3 n B ws gs)
include C
theorem gg : GG n B (wQ ws) (gQ gs) := gg4 C.n2 C.b C.wl C.w C.gl C.g
theorem ml : (standR (gQ gs)).length = (swR gs).length := by rw [stand_up, List.length_map]
theorem st_at {i : Nat} (hi : i < (swR gs).length) : (standR (gQ gs))[i]! = upS (swR gs)[i]! := by
  rw [getElem!_pos _ i (by rw [C.ml]; exact hi), getElem!_pos (swR gs) i hi]
  simp only [stand_up, List.getElem_map]
theorem st_mem {i : Nat} (hi : i < (swR gs).length) : upS (swR gs)[i]! ∈ standR (gQ gs) := by
  rw [← C.st_at hi]
  exact get_mem (by rw [C.ml]; exact hi)
theorem wn12 {s : Sw} (hs : s.1 < n) : mass (wQ ws) (upS s) * 12 = (wnR ws s : Rat) * s.2.1 ∧ (wQ ws)[s.1]! * (upS s).2.2 * 12 = (wnR ws s : Rat) := by
  have e : (wQ ws)[s.1]! = (((ws[s.1]! : Nat) : Int) : Rat) := wQ_at (by rw [C.wl]; exact hs)
  have e2 : (upS s).2.2 * 12 = ((s.2.2 : Int) : Rat) := by
    show Rat.divInt (s.2.2 : Int) 12 * 12 = _
    rw [Rat.divInt_eq_div]
    exact Rat.div_mul_cancel (by decide)
  have e3 : (wnR ws s : Rat) = (((ws[s.1]! : Nat) : Int) : Rat) * ((s.2.2 : Int) : Rat) := by unfold wnR; rw [Rat.intCast_mul]
  rw [e3, ← e, ← e2]
  constructor
  · show (wQ ws)[s.1]! * s.2.1 * (upS s).2.2 * 12 = _
    generalize (wQ ws)[s.1]! = w
    generalize (upS s).2.2 = v
    grind
  · generalize (wQ ws)[s.1]! = w
    generalize (upS s).2.2 = v
    grind
/-- the chance to go, by the mass: the flow -/
theorem goes {i j : Nat} (hi : i < (swR gs).length) (hj : j < (swR gs).length) : mass (wQ ws) (upS (swR gs)[i]!) * goR B ws (swR gs)[i]! (swR gs)[j]! = flowR B (wQ ws) (upS (swR gs)[i]!) (upS (swR gs)[j]!) := by
  have h := C.gg
  have ma := C.st_mem hi
  have mb := C.st_mem hj
  generalize (swR gs)[i]! = a at *
  generalize (swR gs)[j]! = b at *
  obtain ⟨a1, a2, a3⟩ := h.sb ma
  obtain ⟨b1, b2, b3⟩ := h.sb mb
  have a1 : a.1 < n := a1
  have b1 : b.1 < n := b1
  obtain ⟨wa, wa'⟩ := C.wn12 a1
  obtain ⟨wb, wb'⟩ := C.wn12 b1
  have pa := (h.wb a1).1
  have pb := (h.wb b1).1
  have ta := (h.cb a1 b1).1
  have tb := (h.cb b1 a1).1
  have ca : 0 < a.2.1 := a2.1
  have cb : 0 < b.2.1 := b2.1
  have Wa : 0 < (wnR ws a : Rat) := by rw [← wa']; exact Rat.mul_pos (Rat.mul_pos pa a3.1) (by decide)
  have Wb : 0 < (wnR ws b : Rat) := by rw [← wb']; exact Rat.mul_pos (Rat.mul_pos pb b3.1) (by decide)
  have ha : hereR B (wQ ws) (upS a) (upS b) * 12 = (wnR ws a : Rat) * thR B a b := by
    rw [← wa']
    show (wQ ws)[a.1]! * (upS a).2.2 * (B[a.1]!)[b.1]! * 12 = (wQ ws)[a.1]! * (upS a).2.2 * 12 * (B[a.1]!)[b.1]!
    generalize (wQ ws)[a.1]! = w
    generalize (upS a).2.2 = v
    generalize (B[a.1]!)[b.1]! = t
    grind
  have hb : hereR B (wQ ws) (upS b) (upS a) * 12 = (wnR ws b : Rat) * thR B b a := by
    rw [← wb']
    show (wQ ws)[b.1]! * (upS b).2.2 * (B[b.1]!)[a.1]! * 12 = (wQ ws)[b.1]! * (upS b).2.2 * 12 * (B[b.1]!)[a.1]!
    generalize (wQ ws)[b.1]! = w
    generalize (upS b).2.2 = v
    generalize (B[b.1]!)[a.1]! = t
    grind
  have ta : 0 ≤ thR B a b := ta
  have tb : 0 ≤ thR B b a := tb
  have n1 := Rat.mul_nonneg (show 0 ≤ (wnR ws a : Rat) by grind) ta
  have n2 := Rat.mul_nonneg (show 0 ≤ (wnR ws b : Rat) by grind) tb
  have key : mass (wQ ws) (upS a) * 12 * goR B ws a b = 12 * flowR B (wQ ws) (upS a) (upS b) := by
    rw [wa]
    unfold flowR
    show _ = 12 * (a.2.1 * b.2.1 * _)
    generalize hereR B (wQ ws) (upS a) (upS b) = x at *
    generalize hereR B (wQ ws) (upS b) (upS a) = y at *
    unfold goR
    by_cases z : thR B a b = 0 ∨ thR B b a = 0
    · rw [if_pos z]
      rcases z with z | z
      · rw [z, Rat.mul_zero] at ha
        have x0 : x = 0 := by grind
        split
        · rw [x0]; grind
        · have : y = 0 := by grind
          rw [this]; grind
      · rw [z, Rat.mul_zero] at hb
        have y0 : y = 0 := by grind
        split
        · have : x = 0 := by grind
          rw [this]; grind
        · rw [y0]; grind
    · rw [if_neg z]
      have t1 : thR B a b ≠ 0 := fun e => z (.inl e)
      have p1 : 0 < thR B a b := by
        rcases Rat.le_iff_lt_or_eq.mp ta with q | q
        · exact q
        · exact absurd q.symm t1
      have pd : 0 < thR B a b * (wnR ws a : Rat) := Rat.mul_pos p1 Wa
      have nd : thR B a b * (wnR ws a : Rat) ≠ 0 := fun e => by rw [e] at pd; exact absurd pd (by decide)
      have qd : quR B ws a b * (thR B a b * (wnR ws a : Rat)) = thR B b a * (wnR ws b : Rat) := Rat.div_mul_cancel nd
      have one : ((1 : Int) : Rat) = 1 := rfl
      rw [one]
      generalize quR B ws a b = q at *
      by_cases hq : q < 1
      · rw [if_pos hq]
        have : ¬ x < y := by
          intro hxy
          have := Rat.mul_pos (show 0 < 1 - q by grind) pd
          grind
        rw [if_neg this]
        grind
      · rw [if_neg hq]
        have g : (q - 1) * (thR B a b * (wnR ws a : Rat)) ≥ 0 := Rat.mul_nonneg (show 0 ≤ q - 1 by grind) (show 0 ≤ thR B a b * (wnR ws a : Rat) by grind)
        have xy : x ≤ y := by grind
        have e : (if x < y then x else y) = x := by
          split
          · rfl
          · grind
        rw [e]
        grind
  grind
end Cas3
end
end Gw
/-! Plain: h less h next, by the masses: what the flows lead away. -/
namespace Gw
section
variable {n : Nat} {B : List (List Rat)} {ws : List Nat} {gs : List RwG}
abbrev mu (ws : List Nat) (gs : List RwG) (i : Nat) : Rat := mass (wQ ws) (upS (swR gs)[i]!)
abbrev PP (B : List (List Rat)) (ws : List Nat) (gs : List RwG) (i j : Nat) : Rat := ent (chR B ws (swR gs)) i j
abbrev FF (B : List (List Rat)) (ws : List Nat) (gs : List RwG) (i j : Nat) : Rat := fF (flowsR B (wQ ws) (standR (gQ gs))) i j
theorem sum_len {xs : List Rat} {m : Nat} (h : xs.length = m) : sumR xs = S (List.range m) fun i => xs[i]! := by rw [sumR_S, S_range, h]
namespace Cas3
variable (C : Cas3 n B ws gs)
include C
theorem F_at {i j : Nat} (hi : i < (swR gs).length) (hj : j < (swR gs).length) : FF B ws gs i j = if i = j then 0 else flowR B (wQ ws) (upS (swR gs)[i]!) (upS (swR gs)[j]!) := by
  show fF _ _ _ = _
  rw [flowsR_at (by rw [C.ml]; exact hi) (by rw [C.ml]; exact hj), C.st_at hi, C.st_at hj]
theorem row0_at {i j : Nat} (hi : i < (swR gs).length) (hj : j < (swR gs).length) : (row0R B ws (swR gs) (i, (swR gs)[i]!))[j]! = if i = j then 0 else goR B ws (swR gs)[i]! (swR gs)[j]! := by
  unfold row0R
  rw [enumN_map, getElem!_pos _ j (by rw [List.length_map, List.length_range]; exact hj), List.getElem_map, List.getElem_range]
theorem ch_at {i : Nat} (hi : i < (swR gs).length) : (chR B ws (swR gs))[i]! = rowC B ws (swR gs) (i, (swR gs)[i]!) := by
  unfold chR
  rw [enumN_map, getElem!_pos _ i (by rw [List.length_map, List.length_range]; exact hi), List.getElem_map, List.getElem_range]
theorem P_at {i j : Nat} (hi : i < (swR gs).length) (hj : j < (swR gs).length) : PP B ws gs i j = (row0R B ws (swR gs) (i, (swR gs)[i]!))[j]! + (if i = j then 1 - sumR (row0R B ws (swR gs) (i, (swR gs)[i]!)) else 0) := by
  have l0 : (row0R B ws (swR gs) (i, (swR gs)[i]!)).length = (swR gs).length := row0_len
  have e1 : ((1 : Int) : Rat) = 1 := rfl
  unfold PP ent
  rw [C.ch_at hi]
  unfold rowC
  rw [set_at (by rw [l0]; exact hj), e1]
  show (if i = j then _ else _) = _
  by_cases e : i = j
  · rw [if_pos e, if_pos e, C.row0_at hi hj, if_pos e]
    grind
  · rw [if_neg e, if_neg e]
    grind
theorem sumP {i : Nat} (hi : i < (swR gs).length) : S (List.range (swR gs).length) (PP B ws gs i) = 1 := by
  rw [S_congr (g := fun j => (row0R B ws (swR gs) (i, (swR gs)[i]!))[j]! + (if i = j then 1 - sumR (row0R B ws (swR gs) (i, (swR gs)[i]!)) else 0)) (fun j hj => C.P_at hi (List.mem_range.mp hj)), S_add, S_one (i := i) hi (fun j _ hne => if_neg (fun e => hne e.symm)), if_pos rfl, ← sum_len row0_len]
  grind
theorem mP {i j : Nat} (hi : i < (swR gs).length) (hj : j < (swR gs).length) (hne : i ≠ j) : mu ws gs i * PP B ws gs i j = FF B ws gs i j := by
  rw [C.P_at hi hj, C.row0_at hi hj, if_neg hne, if_neg hne, C.F_at hi hj, if_neg hne, ← C.goes hi hj]
  grind
theorem imp {x : Nat → Rat} {i : Nat} (hi : i < (swR gs).length) : mu ws gs i * (x i - S (List.range (swR gs).length) (fun j => PP B ws gs i j * x j)) = lap (swR gs).length (FF B ws gs) x i := by
  have e : x i = S (List.range (swR gs).length) (fun j => PP B ws gs i j * x i) := by rw [S_mulr, C.sumP hi]; grind
  have e2 : x i - S (List.range (swR gs).length) (fun j => PP B ws gs i j * x j) = S (List.range (swR gs).length) (fun j => PP B ws gs i j * x i - PP B ws gs i j * x j) := by rw [S_sub, ← e]
  rw [e2, ← S_mul]
  refine S_congr fun j hj => ?_
  by_cases z : i = j
  · rw [z]; grind
  · rw [← C.mP hi (List.mem_range.mp hj) z]
    grind
theorem mu_pos {i : Nat} (hi : i < (swR gs).length) : 0 < mu ws gs i := by
  obtain ⟨a1, a2, a3⟩ := C.gg.sb (C.st_mem hi)
  exact Rat.mul_pos (Rat.mul_pos (C.gg.wb a1).1 a2.1) a3.1
theorem m2 : 2 ≤ (swR gs).length := by
  have h := C.gg
  have n2 := h.n2'
  obtain ⟨i, hi, ei⟩ := h.has (p := 0) (by omega)
  obtain ⟨j, hj, ej⟩ := h.has (p := 1) (by omega)
  rw [C.ml] at hi hj
  have : i ≠ j := fun e => by rw [e, ej] at ei; exact absurd ei (by decide)
  omega
theorem m6 : (swR gs).length ≤ 6 := by rw [← C.ml]; exact C.gg.m6
end Cas3
section
variable (C : Cas3 n B ws gs) (c : Conn2 B)
include C c
namespace Cas3
theorem Fsym : ∀ i j, i < (swR gs).length → j < (swR gs).length → FF B ws gs i j = FF B ws gs j i := fun i j hi hj => C.gg.fsym c i j (by rw [C.ml]; exact hi) (by rw [C.ml]; exact hj)
theorem Fnn : ∀ i j, i < (swR gs).length → j < (swR gs).length → 0 ≤ FF B ws gs i j := fun i j hi hj => C.gg.fnn c i j (by rw [C.ml]; exact hi) (by rw [C.ml]; exact hj)
theorem Fconn : ∀ T : Nat → Prop, T 0 → (∀ i j, T i → i < (swR gs).length → j < (swR gs).length → 0 < FF B ws gs i j → T j) → ∀ i, i < (swR gs).length → T i := by
  intro T t0 ht
  have := C.gg.conn c T t0
  rw [flowsR_len, C.ml] at this
  exact this ht
omit c in
theorem chL : (chR B ws (swR gs)).length = (swR gs).length := by unfold chR; rw [List.length_map, enumN_len]
omit c in
theorem lesL : (lessM (chR B ws (swR gs))).length = (swR gs).length - 1 := by unfold lessM; rw [List.length_map, List.length_range, C.chL]
omit c in
theorem les_at {i j : Nat} (hi : i < (swR gs).length - 1) (hj : j < (swR gs).length - 1) : ent (lessM (chR B ws (swR gs))) i j = (if i = j then 1 else 0) - PP B ws gs i j := by
  have hl := C.chL
  have e : (i01R i j : Rat) = if i = j then 1 else 0 := by unfold i01R; split <;> rfl
  unfold ent lessM
  rw [getElem!_pos _ i (by rw [List.length_map, List.length_range, hl]; exact hi), List.getElem_map, List.getElem_range, getElem!_pos _ j (by rw [List.length_map, List.length_range, hl]; exact hj), List.getElem_map, List.getElem_range, e]
  rfl
omit c in
/-- a row of the reduced walk at numbers whose last one is 0 -/
theorem les_row {z : Nat → Rat} (hz : z ((swR gs).length - 1) = 0) {i : Nat} (hi : i < (swR gs).length - 1) : S (List.range ((swR gs).length - 1)) (fun j => ent (lessM (chR B ws (swR gs))) i j * z j) = z i - S (List.range (swR gs).length) (fun j => PP B ws gs i j * z j) := by
  have m2 := C.m2
  have e : S (List.range (swR gs).length) (fun j => PP B ws gs i j * z j) = S (List.range ((swR gs).length - 1)) (fun j => PP B ws gs i j * z j) := by
    have : (swR gs).length = ((swR gs).length - 1) + 1 := by omega
    generalize hM : (swR gs).length - 1 = M at *
    rw [this, List.range_succ, S_app, S_cons, S_nil, hz]
    grind
  rw [e, S_congr (g := fun j => (if i = j then 1 else 0) * z j - PP B ws gs i j * z j) (fun j hj => by rw [C.les_at hi (List.mem_range.mp hj)]; grind), S_sub, S_one (i := i) hi (fun j _ hne => by rw [if_neg (fun e => hne e.symm), Rat.zero_mul]), if_pos rfl]
  grind
/-- by the masses nothing is led to 0 but what is the same everywhere -/
theorem triv {z : Nat → Rat} (h : ∀ i, i < (swR gs).length - 1 → S (List.range ((swR gs).length - 1)) (fun j => ent (lessM (chR B ws (swR gs))) i j * z j) = 0) : ∀ j, j < (swR gs).length - 1 → z j = 0 := by
  have m2 := C.m2
  let y (j : Nat) : Rat := if j < (swR gs).length - 1 then z j else 0
  have yl : ∀ j, j < (swR gs).length - 1 → y j = z j := fun j hj => if_pos hj
  have y0 : y ((swR gs).length - 1) = 0 := if_neg (by omega)
  have r : ∀ i, i < (swR gs).length - 1 → lap (swR gs).length (FF B ws gs) y i = 0 := fun i hi => by
    have := h i hi
    rw [S_congr (g := fun j => ent (lessM (chR B ws (swR gs))) i j * y j) (fun j hj => by rw [yl j (List.mem_range.mp hj)]), C.les_row y0 hi] at this
    rw [← C.imp (by omega), this, Rat.mul_zero]
  have sm := lap_sum (C.Fsym c) y
  have last : lap (swR gs).length (FF B ws gs) y ((swR gs).length - 1) = 0 := by
    have e : List.range (swR gs).length = List.range ((swR gs).length - 1) ++ [(swR gs).length - 1] := by
      rw [← List.range_succ]; congr 1; omega
    rw [e, S_app, S_cons, S_nil, S_zero' (fun i hi => r i (List.mem_range.mp hi))] at sm
    grind
  have k := lap_const (C.Fsym c) (C.Fnn c) (C.Fconn c) (x := y) (fun i hi => by
    by_cases e : i = (swR gs).length - 1
    · rw [e]; exact last
    · exact r i (by omega))
  intro j hj
  have k1 := k j (by omega)
  have k2 := k ((swR gs).length - 1) (by omega)
  rw [← yl j hj, k1, ← k2, y0]
end Cas3
end
/-! ### a function's errors -/
abbrev kf (f : List Int) (p : Nat) : Rat := ((f[p]! : Int) : Rat)
abbrev mn (n : Nat) (ws : List Nat) (f : List Int) : Rat := S (List.range n) fun p => sh (wQ ws) p * kf f p
abbrev ph (n : Nat) (ws : List Nat) (gs : List RwG) (f : List Int) (i : Nat) : Rat := kf f ((swR gs)[i]!).1 - mn n ws f
abbrev fq (gs : List RwG) (f : List Int) : List Rat := (swR gs).map fun s => ((f[s.1]! : Int) : Rat)
theorem foldl_S {α : Type} (xs : List α) (g : α → Rat) (a : Rat) : xs.foldl (fun t q => t + g q) a = a + S xs g := by
  induction xs generalizing a with
  | nil => rw [S_nil]; exact (Rat.add_zero a).symm
  | cons x xs ih => rw [List.foldl_cons, ih, S_cons]; grind
theorem zip_S {α β : Type} [Inhabited α] [Inhabited β] {xs : List α} {ys : List β} {m : Nat} (h1 : xs.length = m) (h2 : ys.length = m) (g : α × β → Rat) : S (xs.zip ys) g = S (List.range m) fun i => g (xs[i]!, ys[i]!) := by
  rw [S_range, List.length_zip, h1, h2, Nat.min_self]
  refine S_congr fun i hi => ?_
  have hi := List.mem_range.mp hi
  rw [getElem!_pos _ i (by rw [List.length_zip]; omega), List.getElem_zip, getElem!_pos xs i (by omega), getElem!_pos ys i (by omega)]
theorem sumN_nat (l : List Nat) : sumN l = ((l.sum : Nat) : Int) := by
  unfold sumN
  induction l with
  | nil => rfl
  | cons x l ih => rw [List.map_cons, List.sum_cons, ih, List.sum_cons, Int.natCast_add]
section
variable (C : Cas3 n B ws gs)
include C
namespace Cas3
theorem shl : (shR ws (swR gs)).length = (swR gs).length := by unfold shR; rw [List.length_map]
theorem K0 : (0 : Int) < sumN ws ∧ ((sumN ws : Int) : Rat) = sumR (wQ ws) := by
  have e : ((sumN ws : Int) : Rat) = sumR (wQ ws) := by
    rw [sumN_nat, sum_wQ]
    rfl
  refine ⟨?_, e⟩
  have w := C.gg.W0
  rw [← e] at w
  exact Rat.intCast_lt_intCast.mp (show ((0 : Int) : Rat) < _ from w)
theorem sh_at' {i : Nat} (hi : i < (swR gs).length) : (shR ws (swR gs))[i]! * sumR (wQ ws) = mu ws gs i := by
  obtain ⟨k0, ke⟩ := C.K0
  have hs : ((swR gs)[i]!).1 < n := (C.gg.sb (C.st_mem hi)).1
  obtain ⟨w, _⟩ := C.wn12 hs
  have e : (shR ws (swR gs))[i]! = Rat.divInt (wnR ws (swR gs)[i]!) (12 * sumN ws) * ((swR gs)[i]!).2.1 := by
    unfold shR
    rw [getElem!_pos _ i (by rw [List.length_map]; exact hi), List.getElem_map, getElem!_pos (swR gs) i hi]
  have d : Rat.divInt (wnR ws (swR gs)[i]!) (12 * sumN ws) * (12 * sumR (wQ ws)) = (wnR ws (swR gs)[i]! : Rat) := by
    rw [Rat.divInt_eq_div, Rat.intCast_mul, ke]
    refine Rat.div_mul_cancel ?_
    rw [← ke]
    refine q_mul_ne (by decide) ?_
    rw [Ne, Rat.intCast_eq_zero_iff]
    omega
  rw [e]
  show _ = mass (wQ ws) (upS (swR gs)[i]!)
  grind
end Cas3
end
end
end Gw
/-! Plain: the errors of functions are the table's worths. -/
namespace Gw
section
variable {n : Nat} {B : List (List Rat)} {ws : List Nat} {gs : List RwG}
namespace Cas3
section
variable (C : Cas3 n B ws gs)
include C
theorem W0 : sumR (wQ ws) ≠ 0 := fun e => by have := C.gg.W0; rw [e] at this; exact absurd this (by decide)
theorem fq_at {f : List Int} {i : Nat} (hi : i < (swR gs).length) : (fq gs f)[i]! = kf f ((swR gs)[i]!).1 := by
  unfold fq
  rw [getElem!_pos _ i (by rw [List.length_map]; exact hi), List.getElem_map, getElem!_pos (swR gs) i hi]
theorem fq_len {f : List Int} : (fq gs f).length = (swR gs).length := by simp [fq]
theorem smu (φ : Nat → Rat) : S (List.range (swR gs).length) (fun i => mu ws gs i * φ ((swR gs)[i]!).1) = S (List.range n) (fun p => (wQ ws)[p]! * φ p) := by
  have := C.gg.msum φ
  rw [C.ml] at this
  rw [← this]
  refine S_congr fun i hi => ?_
  rw [C.st_at (List.mem_range.mp hi)]
  rfl
theorem shw {p : Nat} (hp : p < n) : sh (wQ ws) p * sumR (wQ ws) = (wQ ws)[p]! := by
  unfold sh
  rw [(C.gg.sh_at hp).1]
  exact Rat.div_mul_cancel C.W0
theorem mnW {f : List Int} : S (List.range (swR gs).length) (fun i => mu ws gs i * kf f ((swR gs)[i]!).1) = mn n ws f * sumR (wQ ws) := by
  rw [C.smu (kf f), ← S_mulr]
  refine S_congr fun p hp => ?_
  rw [← C.shw (List.mem_range.mp hp)]
  grind
theorem mid {f : List Int} : midR (shR ws (swR gs)) (fq gs f) = mn n ws f := by
  have e : midR (shR ws (swR gs)) (fq gs f) * sumR (wQ ws) = mn n ws f * sumR (wQ ws) := by
    unfold midR
    rw [zip_sum (by rw [C.fq_len, C.shl]), C.shl, ← C.mnW, ← S_mulr]
    refine S_congr fun i hi => ?_
    have hi := List.mem_range.mp hi
    rw [C.fq_at hi, ← C.sh_at' hi]
    grind
  have : (midR (shR ws (swR gs)) (fq gs f) - mn n ws f) * sumR (wQ ws) = 0 := by grind
  rcases Rat.mul_eq_zero.mp this with q | q
  · grind
  · exact absurd q C.W0
theorem goal_at {f : List Int} {i : Nat} (hi : i < (swR gs).length) : (goalF (shR ws (swR gs)) (fq gs f))[i]! = ph n ws gs f i := by
  unfold goalF
  rw [getElem!_pos _ i (by rw [List.length_map, C.fq_len]; exact hi), List.getElem_map, C.mid]
  have := C.fq_at (f := f) hi
  rw [getElem!_pos _ i (by rw [C.fq_len]; exact hi)] at this
  rw [this]
theorem goal_len {f : List Int} : (goalF (shR ws (swR gs)) (fq gs f)).length = (swR gs).length := by unfold goalF; rw [List.length_map, C.fq_len]
theorem muW : S (List.range (swR gs).length) (mu ws gs) = sumR (wQ ws) := by
  have := C.smu (fun _ => 1)
  rw [S_congr (g := fun i => mu ws gs i * 1) (fun i _ => by grind), this, sum_len (m := n) C.gg.wl]
  exact S_congr fun p _ => by grind
theorem phi0 {f : List Int} : S (List.range (swR gs).length) (fun i => mu ws gs i * ph n ws gs f i) = 0 := by
  rw [S_congr (g := fun i => mu ws gs i * kf f ((swR gs)[i]!).1 - mu ws gs i * mn n ws f) (fun i _ => by show _ * (_ - _) = _; grind), S_sub, C.mnW, S_mulr, C.muW]
  grind
theorem wt_Qf {f : List Int} (hf : f.length = n) {T : List (List Rat)} (hl : T.length = n) (hr : ∀ r ∈ T, r.length = n) : wtR T f = Qf n T (kf f) := by
  unfold wtR Qf
  rw [sumR_S, S_map, zip_S hl hf]
  refine S_congr fun p hp => ?_
  have hp := List.mem_range.mp hp
  show sumR (wtL f T[p]!) * ((f[p]! : Int) : Rat) = _
  unfold wtL
  rw [sumR_S, S_map, zip_S (hr _ (get_mem (by rw [hl]; exact hp))) hf, ← S_mulr]
  refine S_congr fun q hq => ?_
  show (T[p]!)[q]! * ((f[q]! : Int) : Rat) * ((f[p]! : Int) : Rat) = ((f[p]! : Int) : Rat) * ((f[q]! : Int) : Rat) * (T[p]!)[q]!
  grind
end
section
variable (C : Cas3 n B ws gs) (c : Conn2 B)
include C c
/-- what solves the reduced walk has the table's worth -/
theorem err {f : List Int} (hf : f.length = n) {ah : List Rat} (hl : ah.length = (swR gs).length - 1) (hs : ∀ i, i < (swR gs).length - 1 → S (List.range ((swR gs).length - 1)) (fun j => ent (lessM (chR B ws (swR gs))) i j * ah[j]!) = ph n ws gs f i) : erOf (shR ws (swR gs)) (chR B ws (swR gs)) ah = wtR (guessedR B (wQ ws) (gQ gs)) f := by
  have h := C.gg
  have m2 := C.m2
  have e0 : ((0 : Int) : Rat) = 0 := rfl
  let x (j : Nat) : Rat := (ah ++ [((0 : Int) : Rat)])[j]!
  have xl : ∀ j, j < (swR gs).length - 1 → x j = ah[j]! := fun j hj => by
    show (ah ++ [((0 : Int) : Rat)])[j]! = _
    rw [getElem!_pos _ j (by rw [List.length_append]; omega), List.getElem_append_left (by omega), getElem!_pos ah j (by omega)]
  have x0 : x ((swR gs).length - 1) = 0 := by
    show (ah ++ [((0 : Int) : Rat)])[(swR gs).length - 1]! = _
    rw [getElem!_pos _ ((swR gs).length - 1) (by rw [List.length_append, List.length_singleton]; omega), List.getElem_append_right (by omega)]
    simp [hl, e0]
  have wl : (ah ++ [((0 : Int) : Rat)]).length = (swR gs).length := by rw [List.length_append, List.length_singleton]; omega
  -- the flows at x
  have lo : ∀ i, i < (swR gs).length - 1 → lap (swR gs).length (FF B ws gs) x i = mu ws gs i * ph n ws gs f i := fun i hi => by
    have := hs i hi
    rw [S_congr (g := fun j => ent (lessM (chR B ws (swR gs))) i j * x j) (fun j hj => by rw [xl j (List.mem_range.mp hj)]), C.les_row x0 hi] at this
    rw [← C.imp (by omega), this]
  have cut : List.range (swR gs).length = List.range ((swR gs).length - 1) ++ [(swR gs).length - 1] := by
    rw [← List.range_succ]; congr 1; omega
  have hi' : lap (swR gs).length (FF B ws gs) x ((swR gs).length - 1) = mu ws gs ((swR gs).length - 1) * ph n ws gs f ((swR gs).length - 1) := by
    have s1 := lap_sum (C.Fsym c) x
    have s2 := C.phi0 (f := f)
    rw [cut, S_app, S_cons, S_nil] at s1 s2
    rw [S_congr (fun i hi => lo i (List.mem_range.mp hi))] at s1
    grind
  have lx : ∀ i, i < (swR gs).length → lap (swR gs).length (FF B ws gs) x i = mu ws gs i * ph n ws gs f i := fun i hi => by
    by_cases e : i = (swR gs).length - 1
    · rw [e]; exact hi'
    · exact lo i (by omega)
  have nx : ∀ i, i < (swR gs).length → S (List.range (swR gs).length) (fun j => PP B ws gs i j * x j) = x i - ph n ws gs f i := fun i hi => by
    have := C.imp (x := x) hi
    rw [lx i hi] at this
    have mp := C.mu_pos hi
    have z : mu ws gs i * ((x i - S (List.range (swR gs).length) (fun j => PP B ws gs i j * x j)) - ph n ws gs f i) = 0 := by grind
    rcases Rat.mul_eq_zero.mp z with q | q
    · rw [q] at mp; exact absurd mp (by decide)
    · grind
  -- squares
  have sq : S (List.range (swR gs).length) (fun i => mu ws gs i * S (List.range (swR gs).length) (fun j => PP B ws gs i j * (x j * x j))) = S (List.range (swR gs).length) (fun i => mu ws gs i * (x i * x i)) := by
    have s1 := lap_sum (C.Fsym c) (fun j => x j * x j)
    rw [S_congr (g := fun i => mu ws gs i * (x i * x i) - mu ws gs i * S (List.range (swR gs).length) (fun j => PP B ws gs i j * (x j * x j))) (fun i hi => by rw [← C.imp (x := fun j => x j * x j) (List.mem_range.mp hi)]; grind), S_sub] at s1
    grind
  -- the table
  have qd := h.quad (kf f)
  have vv := h.vk (kf f)
  have gk : ∀ i, i < (swR gs).length → S (List.range n) (fun p => kf f p * gi (wQ ws) (gQ gs) p i) = mu ws gs i * ph n ws gs f i := fun i hi => by
    rw [h.gk (k := kf f) (i := i) (by rw [C.ml]; exact hi), C.st_at hi]
    rfl
  let y (i : Nat) : Rat := S (List.range n) fun q => kf f q * XX B (wQ ws) (gQ gs) q i
  have ly : ∀ i, i < (swR gs).length → lap (swR gs).length (FF B ws gs) y i = mu ws gs i * ph n ws gs f i := fun i hi => by
    have := h.xk c (kf f) (i := i) (by rw [C.ml]; exact hi)
    rw [gk i hi, C.ml] at this
    exact this
  have un := lap_uniq (C.Fsym c) lx ly ly
  rw [C.ml] at qd vv
  have v2 : S (List.range (swR gs).length) (fun i => mass (wQ ws) (standR (gQ gs))[i]! * ((kf f ((standR (gQ gs))[i]!).1 - S (List.range n) fun p => sh (wQ ws) p * kf f p) * (kf f ((standR (gQ gs))[i]!).1 - S (List.range n) fun p => sh (wQ ws) p * kf f p))) = S (List.range (swR gs).length) (fun i => mu ws gs i * (ph n ws gs f i * ph n ws gs f i)) := S_congr fun i hi => by
    rw [C.st_at (List.mem_range.mp hi)]
    rfl
  have q2 : S (List.range (swR gs).length) (fun i => S (List.range n) (fun p => kf f p * gi (wQ ws) (gQ gs) p i) * S (List.range n) (fun q => kf f q * XX B (wQ ws) (gQ gs) q i)) = S (List.range (swR gs).length) (fun i => mu ws gs i * ph n ws gs f i * y i) := S_congr fun i hi => by
    rw [gk i (List.mem_range.mp hi)]
  rw [v2] at vv
  rw [q2, vv, ← un] at qd
  -- the law's sum
  have hT := math_tl (rows := B) (ws := wQ ws) (gs := gQ gs) h.wl
  rw [C.wt_Qf hf hT.1 hT.2]
  have cr : ∀ i, i < (swR gs).length → ((chR B ws (swR gs))[i]!).length = (swR gs).length := fun i hi => by
    rw [C.ch_at hi]
    unfold rowC
    rw [List.length_set]
    exact row0_len
  have er : erOf (shR ws (swR gs)) (chR B ws (swR gs)) ah = S (List.range (swR gs).length) (fun i => (shR ws (swR gs))[i]! * (S (List.range (swR gs).length) (fun j => PP B ws gs i j * (x j * x j)) - (x i - ph n ws gs f i) * (x i - ph n ws gs f i))) := by
    unfold erOf
    have := foldl_S ((shR ws (swR gs)).zip (chR B ws (swR gs))) (fun q => q.1 * (sqR q.2 (ah ++ [((0 : Int) : Rat)]) - nxR q.2 (ah ++ [((0 : Int) : Rat)]) * nxR q.2 (ah ++ [((0 : Int) : Rat)]))) ((0 : Int) : Rat)
    refine Eq.trans this ?_
    have z0 : ∀ s : Rat, ((0 : Int) : Rat) + s = s := fun s => by rw [e0]; exact Rat.zero_add s
    rw [zip_S C.shl C.chL, z0]
    refine S_congr fun i hi => ?_
    have hi := List.mem_range.mp hi
    have a1 : nxR (chR B ws (swR gs))[i]! (ah ++ [((0 : Int) : Rat)]) = x i - ph n ws gs f i := by
      rw [← nx i hi]
      unfold nxR
      rw [sumR_S, S_map, zip_S (cr i hi) wl]
      rfl
    have a2 : sqR (chR B ws (swR gs))[i]! (ah ++ [((0 : Int) : Rat)]) = S (List.range (swR gs).length) (fun j => PP B ws gs i j * (x j * x j)) := by
      unfold sqR
      rw [sumR_S, S_map, zip_S (cr i hi) wl]
      refine S_congr fun j hj => ?_
      show PP B ws gs i j * x j * x j = _
      grind
    show (shR ws (swR gs))[i]! * _ = _
    rw [a1, a2]
  have eW : erOf (shR ws (swR gs)) (chR B ws (swR gs)) ah * sumR (wQ ws) = sumR (wQ ws) * Qf n (guessedR B (wQ ws) (gQ gs)) (kf f) := by
    rw [er, ← S_mulr, qd, S_congr (g := fun i => mu ws gs i * S (List.range (swR gs).length) (fun j => PP B ws gs i j * (x j * x j)) - (mu ws gs i * (x i * x i) - 2 * (mu ws gs i * ph n ws gs f i * x i) + mu ws gs i * (ph n ws gs f i * ph n ws gs f i))) (fun i hi => by
      rw [← C.sh_at' (List.mem_range.mp hi)]
      grind), S_sub, S_add, S_sub, S_mul, sq]
    grind
  have : (erOf (shR ws (swR gs)) (chR B ws (swR gs)) ah - Qf n (guessedR B (wQ ws) (gQ gs)) (kf f)) * sumR (wQ ws) = 0 := by grind
  rcases Rat.mul_eq_zero.mp this with q | q
  · grind
  · exact absurd q C.W0
end
end Cas3
end
end Gw
/-! Plain: sizes of what the law's own walk computes. -/
namespace Gw
/-- D is a denominator, D at most 2^e, the value at most 2^k -/
structure Zp (D e k : Nat) (x : Rat) : Prop where
  f : IsF D x
  b : Bt (2 ^ k) x
  p : 0 < D
  l : D ≤ 2 ^ e
theorem Zp.mul {D E e f k l : Nat} {x y : Rat} (h : Zp D e k x) (i : Zp E f l y) : Zp (D * E) (e + f) (k + l) (x * y) := ⟨h.f.mul i.f, by rw [← pw]; exact h.b.mul i.b, Nat.mul_pos h.p i.p, by rw [← pw]; exact Nat.mul_le_mul h.l i.l⟩
theorem Zp.grow {D e k l : Nat} {x : Rat} (h : Zp D e k x) (hl : k ≤ l) : Zp D e l x := ⟨h.f, h.b.up (Nat.pow_le_pow_right (by omega) hl), h.p, h.l⟩
theorem Zp.add {D e k : Nat} {x y : Rat} (h : Zp D e k x) (i : Zp D e k y) : Zp D e (k + 1) (x + y) := ⟨h.f.add i.f, (h.b.add i.b).up (by rw [Nat.pow_succ]; omega), h.p, h.l⟩
theorem Zp.sub {D e k : Nat} {x y : Rat} (h : Zp D e k x) (i : Zp D e k y) : Zp D e (k + 1) (x - y) := ⟨h.f.sub i.f, (h.b.sub i.b).up (by rw [Nat.pow_succ]; omega), h.p, h.l⟩
theorem Zp.up {D E e f k : Nat} {x : Rat} (h : Zp D e k x) (hd : D ∣ E) (p : 0 < E) (l : E ≤ 2 ^ f) : Zp E f k x := ⟨h.f.up hd, h.b, p, l⟩
theorem Zp.dn {D e k : Nat} {x : Rat} (h : Zp D e k x) : x.den ≤ 2 ^ e ∧ x.num.natAbs ≤ 2 ^ (k + e) := by
  have d := Nat.le_trans (Nat.le_of_dvd h.p (h.f.den h.p)) h.l
  refine ⟨d, Nat.le_trans h.b.num ?_⟩
  rw [← pw]
  exact Nat.mul_le_mul_left _ d
theorem Zp.fits {D E e f k l : Nat} {x y : Rat} (h : Zp D e k x) (i : Zp E f l y) (h1 : e + f < 9000) (h2 : k + e < 20000) (h3 : l + f < 20000) : Fits x y := by
  obtain ⟨a1, a2⟩ := h.dn
  obtain ⟨b1, b2⟩ := i.dn
  refine ⟨Nat.lt_of_le_of_lt (Nat.le_trans (Nat.mul_le_mul a1 b1) (Nat.le_of_eq (pw e f))) (Nat.pow_lt_pow_right (by decide) h1), Nat.lt_of_le_of_lt a2 (Nat.pow_lt_pow_right (by decide) h2), Nat.lt_of_le_of_lt b2 (Nat.pow_lt_pow_right (by decide) h3)⟩
theorem Zp.sum {D e k : Nat} {xs : List Rat} (h : ∀ x ∈ xs, Zp D e k x) (hl : xs.length ≤ 32) (p : 0 < D) (l : D ≤ 2 ^ e) : Zp D e (k + 5) (sumR xs) := by
  rw [sumR_S]
  refine ⟨IsF.S fun x hx => (h x hx).f, (Bt.S fun x hx => (h x hx).b).up ?_, p, l⟩
  rw [Nat.pow_add, Nat.mul_comm]
  exact Nat.mul_le_mul_left _ hl
theorem zp_fold {D e k : Nat} {xs : List Rat} (h : ∀ x ∈ xs, Zp D e k x) (h1 : e + e < 9000) (h2 : k + 6 + e < 20000) (p : 0 < D) (l : D ≤ 2 ^ e) : ∀ {j : Nat} {a : Rat}, IsF D a → Bt (j * 2 ^ k) a → j + xs.length ≤ 33 → FitsL a xs := by
  induction xs with
  | nil => intro j a _ _ _; trivial
  | cons x xs ih =>
    intro j a fa ba hj
    have hx := h x (by simp)
    rw [List.length_cons] at hj
    have za : Zp D e (k + 6) a := ⟨fa, ba.up (by rw [Nat.pow_add, Nat.mul_comm]; exact Nat.mul_le_mul_left _ (by omega)), p, l⟩
    refine ⟨za.fits hx h1 h2 (by omega), ih (fun y hy => h y (by simp [hy])) (j := j + 1) (fa.add hx.f) ?_ (by omega)⟩
    rw [Nat.succ_mul]
    exact ba.add hx.b
theorem Zp.fitsL {D e k : Nat} {xs : List Rat} (h : ∀ x ∈ xs, Zp D e k x) (hl : xs.length ≤ 32) (h1 : e + e < 9000) (h2 : k + 6 + e < 20000) (p : 0 < D) (l : D ≤ 2 ^ e) : FitsL 0 xs := zp_fold h h1 h2 p l (j := 0) (isF_0 D) ⟨by rw [Nat.zero_mul]; decide, by rw [Nat.zero_mul]; decide⟩ (by omega)
theorem zp_int {i : Int} {k : Nat} (h : i.natAbs ≤ 2 ^ k) : Zp 1 0 k (i : Rat) := by
  refine ⟨isF_int 1 i, ⟨?_, ?_⟩, by decide, by decide⟩
  · have : (((-((2 ^ k : Nat) : Int) : Int)) : Rat) ≤ ((i : Int) : Rat) := Rat.intCast_le_intCast.mpr (by omega)
    rw [Rat.intCast_neg] at this
    exact this
  · have : ((i : Int) : Rat) ≤ ((((2 ^ k : Nat) : Int)) : Rat) := Rat.intCast_le_intCast.mpr (by omega)
    exact this
theorem Cm.bt {d k : Nat} {x : Rat} (h : Cm d (2 ^ k) x) (hd : 0 < d) : Bt (2 ^ k) x := by
  obtain ⟨t, ht, hn⟩ := h
  have z := (zp_int (i := t) (k := k) hn).b
  have d1 : (1 : Rat) ≤ ((d : Nat) : Rat) := by
    have : ((1 : Nat) : Rat) ≤ ((d : Nat) : Rat) := Rat.natCast_le_natCast.mpr (by omega)
    exact this
  obtain ⟨z1, z2⟩ := z
  have p0 : (0 : Rat) ≤ ((2 ^ k : Nat) : Rat) := Rat.natCast_nonneg
  rw [← ht] at z1 z2
  unfold Bt
  generalize ((2 ^ k : Nat) : Rat) = c at *
  generalize ((d : Nat) : Rat) = D at *
  constructor
  · by_cases y : -c ≤ x
    · exact y
    · have := Rat.mul_nonneg (show 0 ≤ D - 1 by grind) (show 0 ≤ -c - x by grind)
      have := Rat.mul_nonneg (show 0 ≤ D - 1 by grind) p0
      grind
  · by_cases y : x ≤ c
    · exact y
    · have := Rat.mul_nonneg (show 0 ≤ D - 1 by grind) (show 0 ≤ x - c by grind)
      have := Rat.mul_nonneg (show 0 ≤ D - 1 by grind) p0
      grind
theorem Cm.zp {d e k : Nat} {x : Rat} (h : Cm d (2 ^ k) x) (hd : 0 < d) (hl : d ≤ 2 ^ e) : Zp d e k x := ⟨⟨h.choose, h.choose_spec.1⟩, h.bt hd, hd, hl⟩
theorem Zp.cm {D e k b : Nat} {x : Rat} (h : Zp D e k x) (hb : k + e ≤ b) : Cm D (2 ^ b) x := by
  obtain ⟨t, ht⟩ := h.f
  refine ⟨t, ht, ?_⟩
  have p : (0 : Rat) ≤ ((D : Nat) : Rat) := Rat.natCast_nonneg
  obtain ⟨z1, z2⟩ := h.b
  have m1 := Rat.mul_nonneg (show 0 ≤ ((2 ^ k : Nat) : Rat) - x by grind) p
  have m2 := Rat.mul_nonneg (show 0 ≤ ((2 ^ k : Nat) : Rat) + x by grind) p
  have e1 : ((t : Int) : Rat) ≤ ((((2 ^ k * D : Nat) : Int)) : Rat) := by
    have : (((2 ^ k * D : Nat) : Int) : Rat) = ((2 ^ k : Nat) : Rat) * ((D : Nat) : Rat) := by rw [← Rat.natCast_mul]; rfl
    rw [this, ← ht]
    grind
  have e2 : (((-((2 ^ k * D : Nat) : Int) : Int)) : Rat) ≤ ((t : Int) : Rat) := by
    have : (((2 ^ k * D : Nat) : Int) : Rat) = ((2 ^ k : Nat) : Rat) * ((D : Nat) : Rat) := by rw [← Rat.natCast_mul]; rfl
    rw [Rat.intCast_neg, this, ← ht]
    grind
  have i1 := Rat.intCast_le_intCast.mp e1
  have i2 := Rat.intCast_le_intCast.mp e2
  have : t.natAbs ≤ 2 ^ k * D := by omega
  refine Nat.le_trans this (Nat.le_trans (Nat.mul_le_mul_left _ h.l) ?_)
  rw [pw]
  exact Nat.pow_le_pow_right (by decide) hb
end Gw
/-! Plain: sizes of the law's own walk. -/
namespace Gw
def prodN : List Nat → Nat
  | [] => 1
  | x :: l => x * prodN l
theorem prodN_dvd {l : List Nat} {x : Nat} (h : x ∈ l) : x ∣ prodN l := by
  induction l with
  | nil => simp at h
  | cons y l ih =>
    rcases List.mem_cons.mp h with q | q
    · rw [q]; exact Nat.dvd_mul_right _ _
    · exact Nat.dvd_trans (ih q) (Nat.dvd_mul_left _ _)
theorem prodN_pos {l : List Nat} (h : ∀ x ∈ l, 0 < x) : 0 < prodN l := by
  induction l with
  | nil => decide
  | cons y l ih => exact Nat.mul_pos (h y (by simp)) (ih fun x hx => h x (by simp [hx]))
theorem prodN_le {l : List Nat} {c : Nat} (h : ∀ x ∈ l, x ≤ c) : prodN l ≤ c ^ l.length := by
  induction l with
  | nil => exact Nat.le_refl _
  | cons y l ih =>
    show y * prodN l ≤ _
    rw [List.length_cons, Nat.pow_succ, Nat.mul_comm y]
    exact Nat.mul_le_mul (ih fun x hx => h x (by simp [hx])) (h y (by simp))
section
variable {n : Nat} {B : List (List Rat)} {ws : List Nat} {gs : List RwG}
abbrev PW (ws : List Nat) (gs : List RwG) : Nat := prodN ((swR gs).map fun s => (wnR ws s).natAbs)
abbrev Dp (ws : List Nat) (gs : List RwG) : Nat := 720 * PW ws gs
namespace Cas3
variable (C : Cas3 n B ws gs)
include C
theorem wnB {i : Nat} (hi : i < (swR gs).length) : 1 ≤ wnR ws (swR gs)[i]! ∧ wnR ws (swR gs)[i]! ≤ 144 := by
  have h := C.gg
  obtain ⟨a1, a2, a3⟩ := h.sb (C.st_mem hi)
  have a1 : ((swR gs)[i]!).1 < n := a1
  obtain ⟨_, w⟩ := C.wn12 a1
  have pb := h.wb a1
  generalize (swR gs)[i]! = a at *
  have p : 0 < (wnR ws a : Rat) := by rw [← w]; exact Rat.mul_pos (Rat.mul_pos pb.1 a3.1) (by decide)
  have q : (wnR ws a : Rat) ≤ 144 := by
    rw [← w]
    have := mul_le' (show 0 ≤ (wQ ws)[a.1]! by grind) pb.2.1 (show 0 ≤ (upS a).2.2 by grind) a3.2.1
    grind
  constructor
  · have : ((0 : Int) : Rat) < (wnR ws a : Rat) := p
    have := Rat.intCast_lt_intCast.mp this
    omega
  · have : (wnR ws a : Rat) ≤ ((144 : Int) : Rat) := q
    exact Rat.intCast_le_intCast.mp this
theorem PWd {i : Nat} (hi : i < (swR gs).length) : (wnR ws (swR gs)[i]!).natAbs ∣ PW ws gs := prodN_dvd (List.mem_map.mpr ⟨_, get_mem hi, rfl⟩)
theorem PWp : 0 < PW ws gs ∧ PW ws gs ≤ 144 ^ 6 := by
  have al : ∀ x ∈ (swR gs).map fun s => (wnR ws s).natAbs, 0 < x ∧ x ≤ 144 := fun x hx => by
    obtain ⟨s, hs, rfl⟩ := List.mem_map.mp hx
    obtain ⟨i, hi, rfl⟩ := List.mem_iff_getElem.mp hs
    have := C.wnB hi
    rw [getElem!_pos (swR gs) i hi] at this
    omega
  refine ⟨prodN_pos fun x hx => (al x hx).1, Nat.le_trans (prodN_le fun x hx => (al x hx).2) ?_⟩
  rw [List.length_map]
  exact Nat.pow_le_pow_right (by decide) C.m6
theorem Dpp : 0 < Dp ws gs ∧ Dp ws gs ≤ 2 ^ 53 := by
  obtain ⟨a, b⟩ := C.PWp
  have e : (144 : Nat) ^ 6 = 8916100448256 := by decide
  have e2 : (2 : Nat) ^ 53 = 9007199254740992 := by decide
  show 0 < 720 * PW ws gs ∧ 720 * PW ws gs ≤ _
  omega
theorem go_z {i j : Nat} (hi : i < (swR gs).length) (hj : j < (swR gs).length) : Zp (Dp ws gs) 53 0 (goR B ws (swR gs)[i]! (swR gs)[j]!) := by
  have h := C.gg
  have ma := C.st_mem hi
  have mb := C.st_mem hj
  have wa := C.wnB hi
  have wb := C.wnB hj
  have pd := C.PWd hi
  obtain ⟨d0, dl⟩ := C.Dpp
  generalize (swR gs)[i]! = a at *
  generalize (swR gs)[j]! = b at *
  obtain ⟨a1, a2, a3⟩ := h.sb ma
  obtain ⟨b1, b2, b3⟩ := h.sb mb
  have a1 : a.1 < n := a1
  have b1 : b.1 < n := b1
  have ta : 0 ≤ thR B a b ∧ thR B a b ≤ 1 ∧ IsF 60 (thR B a b) := h.cb a1 b1
  have tb : 0 ≤ thR B b a ∧ thR B b a ≤ 1 ∧ IsF 60 (thR B b a) := h.cb b1 a1
  have cb : 0 < b.2.1 ∧ b.2.1 ≤ 1 ∧ IsF 12 b.2.1 := b2
  have Wa : 0 < (wnR ws a : Rat) := Rat.intCast_lt_intCast.mpr (show (0 : Int) < wnR ws a by omega)
  have Wb : 0 < (wnR ws b : Rat) := Rat.intCast_lt_intCast.mpr (show (0 : Int) < wnR ws b by omega)
  have one : ((1 : Int) : Rat) = 1 := rfl
  have o1 : Bt (2 ^ 0) (1 : Rat) := ⟨by decide, by decide⟩
  have b01 : ∀ x : Rat, 0 ≤ x → x ≤ 1 → Bt (2 ^ 0) x := fun x h0 h1 => Bt.of (B := 2 ^ 0) h0 h1
  have tc : 0 ≤ thR B a b * b.2.1 ∧ thR B a b * b.2.1 ≤ 1 := ⟨Rat.mul_nonneg ta.1 (by grind), by have := mul_le' ta.1 ta.2.1 (show 0 ≤ b.2.1 by grind) cb.2.1; grind⟩
  unfold goR
  by_cases z : thR B a b = 0 ∨ thR B b a = 0
  · rw [if_pos z]
    exact ⟨isF_0 _, b01 0 (by decide) (by decide), d0, dl⟩
  · rw [if_neg z, one]
    have t1 : thR B a b ≠ 0 := fun e => z (.inl e)
    have p1 : 0 < thR B a b := by
      rcases Rat.le_iff_lt_or_eq.mp ta.1 with q | q
      · exact q
      · exact absurd q.symm t1
    have pd2 : 0 < thR B a b * (wnR ws a : Rat) := Rat.mul_pos p1 Wa
    have nd : thR B a b * (wnR ws a : Rat) ≠ 0 := fun e => by rw [e] at pd2; exact absurd pd2 (by decide)
    have qd : quR B ws a b * (thR B a b * (wnR ws a : Rat)) = thR B b a * (wnR ws b : Rat) := Rat.div_mul_cancel nd
    generalize quR B ws a b = q at *
    have q0 : 0 ≤ q := by
      by_cases y : 0 ≤ q
      · exact y
      · have e1 := Rat.mul_pos (show 0 < -q by grind) pd2
        have e2 := Rat.mul_nonneg tb.1 (show 0 ≤ (wnR ws b : Rat) by grind)
        grind
    by_cases hq : q < 1
    · rw [if_pos hq]
      have y : IsF (60 * 1 * 12) (thR B b a * (wnR ws b : Rat) * b.2.1) := (tb.2.2.mul (isF_int 1 _)).mul cb.2.2
      have x : IsF (720 * (wnR ws a).natAbs) (thR B a b * b.2.1 * q) := by
        obtain ⟨t, ht⟩ := y
        refine ⟨t, ?_⟩
        have e : ((720 * (wnR ws a).natAbs : Nat) : Rat) = ((60 * 1 * 12 : Nat) : Rat) * (wnR ws a : Rat) := by
          rw [Rat.natCast_mul]
          have : (((wnR ws a).natAbs : Nat) : Rat) = ((((wnR ws a).natAbs : Nat) : Int) : Rat) := rfl
          rw [this, show (((wnR ws a).natAbs : Nat) : Int) = wnR ws a by omega]
        rw [e, ← ht, ← qd]
        grind
      refine ⟨x.up (Nat.mul_dvd_mul_left 720 pd), b01 _ (Rat.mul_nonneg tc.1 q0) ?_, d0, dl⟩
      have := mul_le' tc.1 tc.2 q0 (show q ≤ 1 by grind)
      grind
    · rw [if_neg hq]
      refine ⟨?_, b01 _ (Rat.mul_nonneg tc.1 (by decide)) (by grind), d0, dl⟩
      have := (ta.2.2.mul cb.2.2).mul (isF_int 1 1)
      exact this.up ⟨PW ws gs, rfl⟩
theorem row0_z {i : Nat} (hi : i < (swR gs).length) : ∀ x ∈ row0R B ws (swR gs) (i, (swR gs)[i]!), Zp (Dp ws gs) 53 0 x := by
  obtain ⟨d0, dl⟩ := C.Dpp
  intro x hx
  obtain ⟨j, hj, e⟩ := List.mem_iff_getElem.mp hx
  have hl : (row0R B ws (swR gs) (i, (swR gs)[i]!)).length = (swR gs).length := row0_len
  have : x = (row0R B ws (swR gs) (i, (swR gs)[i]!))[j]! := by rw [getElem!_pos _ j hj, e]
  rw [this, C.row0_at hi (by omega)]
  split
  · exact ⟨isF_0 _, Bt.of (B := 2 ^ 0) (by decide) (by decide), d0, dl⟩
  · exact C.go_z hi (by omega)
theorem P_z {i j : Nat} (hi : i < (swR gs).length) (hj : j < (swR gs).length) : Zp (Dp ws gs) 53 6 (PP B ws gs i j) := by
  obtain ⟨d0, dl⟩ := C.Dpp
  have m6 := C.m6
  have z := C.row0_z hi
  rw [C.P_at hi hj, C.row0_at hi hj]
  by_cases e : i = j
  · rw [if_pos e, if_pos e]
    have s := Zp.sum z (by rw [row0_len]; omega) d0 dl
    have o : Zp (Dp ws gs) 53 5 (1 : Rat) := ⟨isF_1 _, ⟨by decide, by decide⟩, d0, dl⟩
    have := o.sub s
    rw [Rat.zero_add]
    exact this
  · rw [if_neg e, if_neg e, Rat.add_zero]
    exact (C.go_z hi hj).grow (by decide)
theorem ch_row {i : Nat} (hi : i < (swR gs).length) : ((chR B ws (swR gs))[i]!).length = (swR gs).length := by
  rw [C.ch_at hi]
  unfold rowC
  rw [List.length_set]
  exact row0_len
theorem ch_mem {r : List Rat} (hr : r ∈ chR B ws (swR gs)) : ∃ i, i < (swR gs).length ∧ r = (chR B ws (swR gs))[i]! := by
  obtain ⟨i, hi, e⟩ := List.mem_iff_getElem.mp hr
  exact ⟨i, by rw [C.chL] at hi; exact hi, by rw [getElem!_pos _ i hi, e]⟩
theorem ch_z : ∀ r ∈ chR B ws (swR gs), r.length = (swR gs).length ∧ ∀ x ∈ r, Zp (Dp ws gs) 53 6 x := by
  intro r hr
  obtain ⟨i, hi, rfl⟩ := C.ch_mem hr
  refine ⟨C.ch_row hi, fun x hx => ?_⟩
  obtain ⟨j, hj, e⟩ := List.mem_iff_getElem.mp hx
  have : x = PP B ws gs i j := by unfold PP ent; rw [getElem!_pos _ j hj, e]
  rw [this]
  exact C.P_z hi (by rw [C.ch_row hi] at hj; exact hj)
/-! shares, goals -/
theorem TT : 0 < ws.sum ∧ ws.sum ≤ 12 ∧ sumR (wQ ws) = ((ws.sum : Nat) : Rat) := by
  have w := C.gg.W0
  have b := C.gg.WB.1
  rw [sum_wQ] at w b
  refine ⟨?_, ?_, sum_wQ ws⟩
  · have : ((0 : Nat) : Rat) < ((ws.sum : Nat) : Rat) := w
    exact Rat.natCast_lt_natCast.mp this
  · have : ((ws.sum : Nat) : Rat) ≤ ((12 : Nat) : Rat) := b
    exact Rat.natCast_le_natCast.mp this
theorem sp_z {p : Nat} (hp : p < n) : Zp ws.sum 4 0 (sh (wQ ws) p) := by
  obtain ⟨t0, t12, te⟩ := C.TT
  have h := C.gg
  obtain ⟨e, m⟩ := h.sh_at hp
  obtain ⟨b0, b1⟩ := h.shB m
  refine ⟨?_, Bt.of (B := 2 ^ 0) b0 b1, t0, by omega⟩
  unfold sh
  rw [e, te, wQ_at (by rw [C.wl]; exact hp)]
  refine ⟨((ws[p]! : Nat) : Int), ?_⟩
  rw [Rat.div_mul_cancel (by rw [Ne, Rat.natCast_eq_zero_iff]; omega)]
  rfl
theorem kf_z {f : List Int} (hb : ∀ x ∈ f, -1 ≤ x ∧ x ≤ 2) (hf : f.length = n) {p : Nat} (hp : p < n) : Zp 1 0 1 (kf f p) := by
  have := hb _ (get_mem (xs := f) (i := p) (by omega))
  exact zp_int (by omega)
theorem mn_z {f : List Int} (hb : ∀ x ∈ f, -1 ≤ x ∧ x ≤ 2) (hf : f.length = n) : Zp ws.sum 4 6 (mn n ws f) := by
  obtain ⟨t0, t12, te⟩ := C.TT
  have n3 := C.gg.n3
  have : mn n ws f = sumR ((List.range n).map fun p => sh (wQ ws) p * kf f p) := by rw [sumR_S, S_map]
  rw [this]
  refine Zp.sum (k := 1) (fun x hx => ?_) (by rw [List.length_map, List.length_range]; omega) t0 (by omega)
  obtain ⟨p, hp, rfl⟩ := List.mem_map.mp hx
  have hp := List.mem_range.mp hp
  have := (C.sp_z hp).mul (C.kf_z hb hf hp)
  rw [Nat.mul_one] at this
  exact this
theorem pl_lt {i : Nat} (hi : i < (swR gs).length) : ((swR gs)[i]!).1 < n := (C.gg.sb (C.st_mem hi)).1
theorem ph_z {f : List Int} (hb : ∀ x ∈ f, -1 ≤ x ∧ x ≤ 2) (hf : f.length = n) {i : Nat} (hi : i < (swR gs).length) : Zp ws.sum 4 7 (ph n ws gs f i) := by
  obtain ⟨t0, t12, te⟩ := C.TT
  exact (((C.kf_z hb hf (C.pl_lt hi)).up (Nat.one_dvd _) t0 (by omega)).grow (l := 6) (by decide)).sub (C.mn_z hb hf)
theorem sw_z {i : Nat} (hi : i < (swR gs).length) : Zp (144 * ws.sum) 11 0 (shR ws (swR gs))[i]! := by
  obtain ⟨t0, t12, te⟩ := C.TT
  have e2 : (2 : Nat) ^ 11 = 2048 := by decide
  have se := C.sh_at' hi
  have mp := C.mu_pos hi
  have mle : mu ws gs i ≤ sumR (wQ ws) := by
    rw [← C.muW]
    exact S_le (fun j hj => by have := C.mu_pos (List.mem_range.mp hj); grind) (List.mem_range.mpr hi)
  have W0 := C.gg.W0
  have nz := C.W0
  have inv := Rat.mul_inv_cancel _ nz
  obtain ⟨w, _⟩ := C.wn12 (C.pl_lt hi)
  have cI : IsF 12 ((swR gs)[i]!).2.1 := (C.gg.sb (C.st_mem hi)).2.1.2.2
  refine ⟨?_, Bt.of (B := 2 ^ 0) ?_ ?_, by omega, by omega⟩
  · obtain ⟨t, ht⟩ := cI
    refine ⟨wnR ws (swR gs)[i]! * t, ?_⟩
    have e : ((144 * ws.sum : Nat) : Rat) = ((12 : Nat) : Rat) * ((12 : Nat) : Rat) * ((ws.sum : Nat) : Rat) := by rw [← Rat.natCast_mul, ← Rat.natCast_mul]
    rw [e, ← te, Rat.intCast_mul, ← ht]
    have z : ((12 : Nat) : Rat) = 12 := rfl
    rw [z]
    have w' : mu ws gs i * 12 = (wnR ws (swR gs)[i]! : Rat) * ((swR gs)[i]!).2.1 := w
    generalize (shR ws (swR gs))[i]! = s at *
    generalize mu ws gs i = m at *
    generalize sumR (wQ ws) = W at *
    generalize (wnR ws (swR gs)[i]! : Rat) = v at *
    generalize ((swR gs)[i]!).2.1 = u at *
    grind
  · generalize (shR ws (swR gs))[i]! = s at *
    by_cases y : 0 ≤ s
    · exact y
    · have := Rat.mul_pos (show 0 < -s by grind) W0
      grind
  · generalize (shR ws (swR gs))[i]! = s at *
    show s ≤ ((1 : Nat) : Rat)
    have o : ((1 : Nat) : Rat) = 1 := rfl
    rw [o]
    by_cases y : s ≤ 1
    · exact y
    · have := Rat.mul_pos (show 0 < s - 1 by grind) W0
      grind
theorem sw_mem : ∀ x ∈ shR ws (swR gs), Zp (144 * ws.sum) 11 0 x := by
  intro x hx
  obtain ⟨i, hi, e⟩ := List.mem_iff_getElem.mp hx
  have : x = (shR ws (swR gs))[i]! := by rw [getElem!_pos _ i hi, e]
  rw [this]
  exact C.sw_z (by rw [C.shl] at hi; exact hi)
theorem fq_mem {f : List Int} (hb : ∀ x ∈ f, -1 ≤ x ∧ x ≤ 2) (hf : f.length = n) : ∀ x ∈ fq gs f, Zp 1 0 1 x := by
  intro x hx
  obtain ⟨i, hi, e⟩ := List.mem_iff_getElem.mp hx
  have : x = (fq gs f)[i]! := by rw [getElem!_pos _ i hi, e]
  have hi' : i < (swR gs).length := by rw [C.fq_len] at hi; exact hi
  rw [this, C.fq_at hi']
  exact C.kf_z hb hf (C.pl_lt hi')
end Cas3
end
end Gw
/-! Plain: all of the plain law of k83. -/
namespace Gw
section
variable {n : Nat} {B : List (List Rat)} {ws : List Nat} {gs : List RwG}
abbrev gls (ws : List Nat) (gs : List RwG) (fs : List (List Int)) : List (List Rat) := (fsQ fs (swR gs)).map (goalF (shR ws (swR gs)))
theorem sol_row {rows goals : List (List Rat)} {ah : List Rat} (h : ah ∈ solR rows goals) : ah.length = rows.length := by
  unfold solR at h
  obtain ⟨k, _, rfl⟩ := List.mem_map.mp h
  rw [List.length_map, List.length_range]
namespace Cas3
section
variable (C : Cas3 n B ws gs)
include C
theorem gls_len {fs : List (List Int)} : (gls ws gs fs).length = fs.length := by simp [gls, fsQ]
theorem gls_at {fs : List (List Int)} {c : Nat} (hc : c < fs.length) : (gls ws gs fs)[c]! = goalF (shR ws (swR gs)) (fq gs fs[c]!) := by
  rw [getElem!_pos _ c (by rw [C.gls_len]; exact hc)]
  unfold gls fsQ
  rw [List.getElem_map, List.getElem_map, getElem!_pos fs c hc]
theorem gls_mem {fs : List (List Int)} {g : List Rat} (hg : g ∈ gls ws gs fs) : ∃ f ∈ fs, g = goalF (shR ws (swR gs)) (fq gs f) := by
  obtain ⟨q, hq, rfl⟩ := List.mem_map.mp hg
  obtain ⟨f, hf, rfl⟩ := List.mem_map.mp hq
  exact ⟨f, hf, rfl⟩
theorem les_rr : ∀ r ∈ lessM (chR B ws (swR gs)), r.length = (lessM (chR B ws (swR gs))).length := by
  intro r hr
  unfold lessM at hr ⊢
  obtain ⟨i, hi, rfl⟩ := List.mem_map.mp hr
  rw [List.length_map, List.length_map]
end
section
variable (C : Cas3 n B ws gs) (c : Conn2 B)
include C c
theorem sys {fs : List (List Int)} (hF : FnsOk n fs) : Sys (lessM (chR B ws (swR gs))) (gls ws gs fs) 64 := by
  obtain ⟨t0, t12, te⟩ := C.TT
  obtain ⟨d0, dl⟩ := C.Dpp
  have lL := C.lesL
  have m2 := C.m2
  have Dl : Dp ws gs * ws.sum ≤ 2 ^ 57 := by
    have : (2 : Nat) ^ 57 = 2 ^ 53 * 2 ^ 4 := by decide
    rw [this]
    exact Nat.mul_le_mul dl (by omega)
  have D0 : 0 < Dp ws gs * ws.sum := Nat.mul_pos d0 t0
  refine ⟨C.les_rr, fun g hg => ?_, fun z hz => ?_, Dp ws gs * ws.sum, D0, Nat.le_trans Dl (Nat.pow_le_pow_right (by decide) (by decide)), fun i hi x hx => ?_⟩
  · obtain ⟨f, _, rfl⟩ := C.gls_mem hg
    rw [C.goal_len, lL]
    omega
  · rw [lL] at hz ⊢
    exact C.triv c hz
  · rw [lf0_len, lL] at hi
    rw [lf0_at (by rw [lL]; exact hi)] at hx
    rcases List.mem_append.mp hx with q | q
    · obtain ⟨j, hj, e⟩ := List.mem_iff_getElem.mp q
      have hj' : j < (swR gs).length - 1 := by
        rw [C.les_rr _ (get_mem (by rw [lL]; exact hi)), lL] at hj
        exact hj
      have ex : x = ent (lessM (chR B ws (swR gs))) i j := by unfold ent; rw [getElem!_pos _ j hj, e]
      rw [ex, C.les_at hi hj']
      have p := C.P_z (i := i) (j := j) (by omega) (by omega)
      have o : Zp (Dp ws gs) 53 6 (if i = j then (1 : Rat) else 0) := by
        split
        · exact ⟨isF_1 _, ⟨by decide, by decide⟩, d0, dl⟩
        · exact ⟨isF_0 _, ⟨by decide, by decide⟩, d0, dl⟩
      exact ((o.sub p).up (Nat.dvd_mul_right _ _) D0 Dl).cm (by decide)
    · obtain ⟨g, hg, rfl⟩ := List.mem_map.mp q
      obtain ⟨f, hf, rfl⟩ := C.gls_mem hg
      obtain ⟨hl, hb⟩ := hF.2 f hf
      rw [C.goal_at (by omega)]
      exact ((C.ph_z hb hl (by omega)).up (Nat.dvd_mul_left _ _) D0 Dl).cm (by decide)
theorem errP {fs : List (List Int)} (hF : FnsOk n fs) : ErrP (chR B ws (swR gs)) (shR ws (swR gs)) (fsQ fs (swR gs)) := by
  have Y := C.sys c hF
  obtain ⟨t0, t12, te⟩ := C.TT
  obtain ⟨d0, dl⟩ := C.Dpp
  have lL := C.lesL
  have m2 := C.m2
  have m6 := C.m6
  have chl := C.chL
  have cz := C.ch_z
  have swz := C.sw_mem
  have e11 : (2 : Nat) ^ 11 = 2048 := by decide
  have T0 : 0 < 144 * ws.sum := by omega
  have Tl : 144 * ws.sum ≤ 2 ^ 11 := by omega
  have ff : ∀ f ∈ fsQ fs (swR gs), ∃ f0 ∈ fs, f = fq gs f0 := fun f hf => by
    obtain ⟨f0, h0, rfl⟩ := List.mem_map.mp hf
    exact ⟨f0, h0, rfl⟩
  have fz : ∀ f ∈ fsQ fs (swR gs), ∀ x ∈ f, Zp 1 0 1 x := fun f hf => by
    obtain ⟨f0, h0, rfl⟩ := ff f hf
    exact C.fq_mem (hF.2 f0 h0).2 (hF.2 f0 h0).1
  have sf : ∀ f ∈ fsQ fs (swR gs), ∀ x ∈ ((shR ws (swR gs)).zip f).map fun q => q.1 * q.2, Zp (144 * ws.sum * 1) 11 1 x := fun f hf x hx => by
    obtain ⟨q, hq, rfl⟩ := List.mem_map.mp hx
    obtain ⟨q1, q2⟩ := List.of_mem_zip (show (q.1, q.2) ∈ _ from hq)
    exact (swz _ q1).mul (fz f hf _ q2)
  obtain ⟨d, dp, dle, sol⟩ := Y.sol_cm
  have bL : b2 64 (lessM (chR B ws (swR gs))).length ≤ 2079 := by
    have := b2_mono (b := 64) (show (lessM (chR B ws (swR gs))).length ≤ 5 by omega)
    have e : b2 64 5 = 2079 := by decide
    omega
  have hfl : fs.length ≤ 3 := hF.1
  have gL := C.gls_len (fs := fs)
  have solL : ∀ ah ∈ solR (lessM (chR B ws (swR gs))) (gls ws gs fs), ah.length = (swR gs).length - 1 ∧ ∀ x ∈ ah, Zp d 2079 2079 x := fun ah ha => by
    obtain ⟨k, hk, e⟩ := List.mem_iff_getElem.mp ha
    have hk' : k < (gls ws gs fs).length := by unfold solR at hk; simpa using hk
    have la : ah.length = (swR gs).length - 1 := by rw [sol_row ha, lL]
    refine ⟨la, fun x hx => ?_⟩
    obtain ⟨i, hi, ei⟩ := List.mem_iff_getElem.mp hx
    have ex : x = ((solR (lessM (chR B ws (swR gs))) (gls ws gs fs))[k]!)[i]! := by
      rw [getElem!_pos _ k hk, e, getElem!_pos _ i hi, ei]
    rw [ex]
    exact ((sol k i hk' (by rw [lL]; omega)).zp dp dle).grow bL |>.up (Nat.dvd_refl d) dp (Nat.le_trans dle (Nat.pow_le_pow_right (by decide) bL))
  have dle' : d ≤ 2 ^ 2079 := Nat.le_trans dle (Nat.pow_le_pow_right (by decide) bL)
  have wz : ∀ ah ∈ solR (lessM (chR B ws (swR gs))) (gls ws gs fs), (ah ++ [((0 : Int) : Rat)]).length = (swR gs).length ∧ ∀ x ∈ ah ++ [((0 : Int) : Rat)], Zp d 2079 2079 x := fun ah ha => by
    obtain ⟨l, z⟩ := solL ah ha
    refine ⟨by rw [List.length_append, List.length_singleton]; omega, fun x hx => ?_⟩
    rcases List.mem_append.mp hx with q | q
    · exact z x q
    · have : x = ((0 : Int) : Rat) := by simpa using q
      rw [this]
      exact ⟨isF_0 d, Bt.of (B := 2 ^ 2079) Rat.le_refl Rat.natCast_nonneg, dp, dle'⟩
  have D1 : 0 < Dp ws gs * d := Nat.mul_pos d0 dp
  have L1 : Dp ws gs * d ≤ 2 ^ (53 + 2079) := by rw [← pw]; exact Nat.mul_le_mul dl dle'
  have D2 : 0 < Dp ws gs * d * d := Nat.mul_pos D1 dp
  have L2 : Dp ws gs * d * d ≤ 2 ^ (53 + 2079 + 2079) := by rw [← pw (53 + 2079)]; exact Nat.mul_le_mul L1 dle'
  have D3 : 0 < Dp ws gs * d * (Dp ws gs * d) := Nat.mul_pos D1 D1
  have L3 : Dp ws gs * d * (Dp ws gs * d) ≤ 2 ^ (53 + 2079 + (53 + 2079)) := by rw [← pw]; exact Nat.mul_le_mul L1 L1
  -- products
  have pz : ∀ ah ∈ solR (lessM (chR B ws (swR gs))) (gls ws gs fs), ∀ r ∈ chR B ws (swR gs), ∀ q ∈ r.zip (ah ++ [((0 : Int) : Rat)]), Zp (Dp ws gs) 53 6 q.1 ∧ Zp d 2079 2079 q.2 := fun ah ha r hr q hq => by
    obtain ⟨q1, q2⟩ := List.of_mem_zip (show (q.1, q.2) ∈ _ from hq)
    exact ⟨(cz r hr).2 _ q1, (wz ah ha).2 _ q2⟩
  have zl : ∀ ah ∈ solR (lessM (chR B ws (swR gs))) (gls ws gs fs), ∀ r ∈ chR B ws (swR gs), (r.zip (ah ++ [((0 : Int) : Rat)])).length ≤ 32 := fun ah ha r hr => by
    rw [List.length_zip, (cz r hr).1]
    omega
  have p1 : ∀ ah ∈ solR (lessM (chR B ws (swR gs))) (gls ws gs fs), ∀ r ∈ chR B ws (swR gs), ∀ x ∈ (r.zip (ah ++ [((0 : Int) : Rat)])).map fun q => q.1 * q.2, Zp (Dp ws gs * d) (53 + 2079) (6 + 2079) x := fun ah ha r hr x hx => by
    obtain ⟨q, hq, rfl⟩ := List.mem_map.mp hx
    obtain ⟨a, b⟩ := pz ah ha r hr q hq
    exact a.mul b
  have p2 : ∀ ah ∈ solR (lessM (chR B ws (swR gs))) (gls ws gs fs), ∀ r ∈ chR B ws (swR gs), ∀ x ∈ (r.zip (ah ++ [((0 : Int) : Rat)])).map fun q => q.1 * q.2 * q.2, Zp (Dp ws gs * d * d) (53 + 2079 + 2079) (6 + 2079 + 2079) x := fun ah ha r hr x hx => by
    obtain ⟨q, hq, rfl⟩ := List.mem_map.mp hx
    obtain ⟨a, b⟩ := pz ah ha r hr q hq
    exact (a.mul b).mul b
  have nz : ∀ ah ∈ solR (lessM (chR B ws (swR gs))) (gls ws gs fs), ∀ r ∈ chR B ws (swR gs), Zp (Dp ws gs * d) (53 + 2079) (6 + 2079 + 5) (nxR r (ah ++ [((0 : Int) : Rat)])) := fun ah ha r hr => Zp.sum (p1 ah ha r hr) (by rw [List.length_map]; exact zl ah ha r hr) D1 L1
  have qz : ∀ ah ∈ solR (lessM (chR B ws (swR gs))) (gls ws gs fs), ∀ r ∈ chR B ws (swR gs), Zp (Dp ws gs * d * d) (53 + 2079 + 2079) (6 + 2079 + 2079 + 5) (sqR r (ah ++ [((0 : Int) : Rat)])) := fun ah ha r hr => Zp.sum (p2 ah ha r hr) (by rw [List.length_map]; exact zl ah ha r hr) D2 L2
  have tz : ∀ ah ∈ solR (lessM (chR B ws (swR gs))) (gls ws gs fs), ∀ r ∈ chR B ws (swR gs), Zp (Dp ws gs * d * (Dp ws gs * d)) (53 + 2079 + (53 + 2079)) 4181 (sqR r (ah ++ [((0 : Int) : Rat)]) - nxR r (ah ++ [((0 : Int) : Rat)]) * nxR r (ah ++ [((0 : Int) : Rat)])) := fun ah ha r hr => by
    have a := nz ah ha r hr
    have b := (qz ah ha r hr).up (E := Dp ws gs * d * (Dp ws gs * d)) (Nat.mul_dvd_mul_left _ (Nat.dvd_mul_left _ _)) D3 L3
    exact (b.grow (l := 4180) (by decide)).sub ((a.mul a).grow (l := 4180) (by decide))
  have D4 : 0 < 144 * ws.sum * (Dp ws gs * d * (Dp ws gs * d)) := Nat.mul_pos T0 D3
  have L4 : 144 * ws.sum * (Dp ws gs * d * (Dp ws gs * d)) ≤ 2 ^ (11 + (53 + 2079 + (53 + 2079))) := by rw [← pw 11]; exact Nat.mul_le_mul Tl L3
  have uz : ∀ ah ∈ solR (lessM (chR B ws (swR gs))) (gls ws gs fs), ∀ q ∈ (shR ws (swR gs)).zip (chR B ws (swR gs)), Zp (144 * ws.sum) 11 0 q.1 ∧ Zp (144 * ws.sum * (Dp ws gs * d * (Dp ws gs * d))) (11 + (53 + 2079 + (53 + 2079))) (0 + 4181) (q.1 * (sqR q.2 (ah ++ [((0 : Int) : Rat)]) - nxR q.2 (ah ++ [((0 : Int) : Rat)]) * nxR q.2 (ah ++ [((0 : Int) : Rat)]))) := fun ah ha q hq => by
    obtain ⟨q1, q2⟩ := List.of_mem_zip (show (q.1, q.2) ∈ _ from hq)
    exact ⟨swz _ q1, (swz _ q1).mul (tz ah ha _ q2)⟩
  refine {
    n2 := by rw [chl]; exact m2
    n := by rw [chl]; omega
    rr := fun r hr => by rw [chl]; exact (cz r hr).1
    sl := by rw [chl]; exact C.shl
    fn := by unfold fsQ; rw [List.length_map]; omega
    fl := fun f hf => by
      obtain ⟨f0, _, rfl⟩ := ff f hf
      rw [chl]; exact C.fq_len
    f1 := fun f hf q hq => by
      obtain ⟨q1, q2⟩ := List.of_mem_zip (show (q.1, q.2) ∈ _ from hq)
      exact (swz _ q1).fits (fz f hf _ q2) (by decide) (by decide) (by decide)
    f2 := fun f hf => Zp.fitsL (sf f hf) (by rw [List.length_map, List.length_zip, C.shl]; omega) (by decide) (by decide) (by omega) (by omega)
    f3 := fun f hf one ho => by
      have := fz f hf one ho
      obtain ⟨f0, h0, rfl⟩ := ff f hf
      rw [C.mid]
      exact this.fits (C.mn_z (hF.2 f0 h0).2 (hF.2 f0 h0).1) (by decide) (by decide) (by decide)
    f4 := fun r hr x hx i hi => ((cz r hr).2 x hx).fits (zp_int (k := 0) (by rcases hi with e | e <;> rw [e] <;> decide)) (by decide) (by decide) (by decide)
    sv := Y.slv (by omega) (by rw [gL]; omega) (by decide)
    al := fun ah ha => by rw [(solL ah ha).1]; omega
    e1 := fun ah ha r hr q hq => ?_
    e2 := fun ah ha r hr => Zp.fitsL (p1 ah ha r hr) (by rw [List.length_map]; exact zl ah ha r hr) (by decide) (by decide) D1 L1
    e4 := fun ah ha r hr => Zp.fitsL (p2 ah ha r hr) (by rw [List.length_map]; exact zl ah ha r hr) (by decide) (by decide) D2 L2
    e5 := fun ah ha r hr => (nz ah ha r hr).fits (nz ah ha r hr) (by decide) (by decide) (by decide)
    e6 := fun ah ha r hr => (qz ah ha r hr).fits ((nz ah ha r hr).mul (nz ah ha r hr)) (by decide) (by decide) (by decide)
    e7 := fun ah ha q hq => (uz ah ha q hq).1.fits (tz ah ha _ (List.of_mem_zip (show (q.1, q.2) ∈ _ from hq)).2) (by decide) (by decide) (by decide)
    e8 := fun ah ha k q hk => ?_ }
  · obtain ⟨a, b⟩ := pz ah ha r hr q hq
    exact ⟨a.fits b (by decide) (by decide) (by decide), (a.mul b).fits b (by decide) (by decide) (by decide)⟩
  · have hqm := List.mem_of_getElem? hk
    have e0 : ((0 : Int) : Rat) = 0 := rfl
    have fo := foldl_S (((shR ws (swR gs)).zip (chR B ws (swR gs))).take k) (fun q => q.1 * (sqR q.2 (ah ++ [((0 : Int) : Rat)]) - nxR q.2 (ah ++ [((0 : Int) : Rat)]) * nxR q.2 (ah ++ [((0 : Int) : Rat)]))) ((0 : Int) : Rat)
    have z0 : ∀ s : Rat, ((0 : Int) : Rat) + s = s := fun s => by rw [e0]; exact Rat.zero_add s
    rw [z0] at fo
    have fo' : (((shR ws (swR gs)).zip (chR B ws (swR gs))).take k).foldl (erT (ah ++ [((0 : Int) : Rat)])) ((0 : Int) : Rat) = sumR ((((shR ws (swR gs)).zip (chR B ws (swR gs))).take k).map fun q => q.1 * (sqR q.2 (ah ++ [((0 : Int) : Rat)]) - nxR q.2 (ah ++ [((0 : Int) : Rat)]) * nxR q.2 (ah ++ [((0 : Int) : Rat)]))) := by
      rw [sumR_S, S_map]
      exact fo
    rw [fo']
    refine (Zp.sum (k := 0 + 4181) (fun x hx => ?_) (by rw [List.length_map, List.length_take, List.length_zip, C.shl]; omega) D4 L4).fits (uz ah ha q hqm).2 (by decide) (by decide) (by decide)
    obtain ⟨q', hq', rfl⟩ := List.mem_map.mp hx
    exact (uz ah ha q' (List.mem_of_mem_take hq')).2
/-- the errors, all functions -/
theorem errs {fs : List (List Int)} (hF : FnsOk n fs) : ersR (chR B ws (swR gs)) (shR ws (swR gs)) (fsQ fs (swR gs)) = fs.map (wtR (guessedR B (wQ ws) (gQ gs))) := by
  have Y := C.sys c hF
  have lL := C.lesL
  have gL := C.gls_len (fs := fs)
  have sL : (solR (lessM (chR B ws (swR gs))) (gls ws gs fs)).length = fs.length := by unfold solR; rw [List.length_map, List.length_range, gL]
  show (solR (lessM (chR B ws (swR gs))) (gls ws gs fs)).map (erOf (shR ws (swR gs)) (chR B ws (swR gs))) = _
  apply List.ext_getElem
  · rw [List.length_map, List.length_map, sL]
  · intro k h1 h2
    have hk : k < fs.length := by simpa using h2
    rw [List.getElem_map, List.getElem_map]
    have e1 : (solR (lessM (chR B ws (swR gs))) (gls ws gs fs))[k]'(by rw [sL]; exact hk) = (solR (lessM (chR B ws (swR gs))) (gls ws gs fs))[k]! := (getElem!_pos _ k (by rw [sL]; exact hk)).symm
    have e2 : fs[k] = fs[k]! := (getElem!_pos fs k hk).symm
    rw [e1, e2]
    have hl : ((solR (lessM (chR B ws (swR gs))) (gls ws gs fs))[k]!).length = (swR gs).length - 1 := by
      rw [sol_row (get_mem (by rw [sL]; exact hk)), lL]
    refine C.err c (hF.2 _ (get_mem hk)).1 hl fun i hi => ?_
    have := Y.solves (c := k) (by rw [gL]; exact hk) (i := i) (by rw [lL]; exact hi)
    rw [lL, C.gls_at hk, C.goal_at (by omega)] at this
    exact this
end
end Cas3
end
end Gw
/-! Plain: MathR. -/
namespace Gw
section
variable {n : Nat} {B : List (List Rat)} {ws : List Nat} {gs : List RwG}
namespace Cas3
variable (C : Cas3 n B ws gs)
include C
theorem tld : TldP B ws gs := by
  have n3 := C.gg.n3
  refine ⟨C.gg.gt, by rw [C.gl]; omega, fun g hg => ?_⟩
  have := len_gu (C.g g hg).1
  omega
theorem wlk : WlkP n B ws gs := by
  have h := C.gg
  have n3 := h.n3
  have n2 := h.n2'
  obtain ⟨t0, t12, te⟩ := C.TT
  have m6 := C.m6
  refine ⟨by rw [C.gl]; omega, fun g hg => by have := len_gu (C.g g hg).1; omega, ⟨by omega, by omega, h.rl, h.rr, fun r hr x hx => ?_, C.wl, C.w⟩, by omega, fun s hs => ?_, by rw [sumN_nat]; omega, by rw [sumN_nat]; omega⟩
  · exact (sz_of (isF_den (h.rx r hr x hx).2) (Bt.of (B := 1) (h.rx r hr x hx).1 (h.le1 r hr x hx)) (by decide) (by decide) (by decide) : Sz 10 x)
  · obtain ⟨i, hi, e⟩ := List.mem_iff_getElem.mp hs
    have es : s = (swR gs)[i]! := by rw [getElem!_pos _ i hi, e]
    obtain ⟨a1, a2, a3⟩ := h.sb (C.st_mem hi)
    have v12 : (upS (swR gs)[i]!).2.2 * 12 = ((((swR gs)[i]!).2.2 : Int) : Rat) := by
      show Rat.divInt _ 12 * 12 = _
      rw [Rat.divInt_eq_div]
      exact Rat.div_mul_cancel (by decide)
    have p : (0 : Rat) < ((((swR gs)[i]!).2.2 : Int) : Rat) := by rw [← v12]; exact Rat.mul_pos a3.1 (by decide)
    have q : ((((swR gs)[i]!).2.2 : Int) : Rat) ≤ ((36 : Int) : Rat) := by
      have e36 : ((36 : Int) : Rat) = 36 := rfl
      rw [← v12, e36]
      have := a3.2.1
      grind
    have p' := Rat.intCast_lt_intCast.mp (show ((0 : Int) : Rat) < _ from p)
    have q' := Rat.intCast_le_intCast.mp q
    rw [es]
    exact ⟨a1, (sz_of a2.2.2 (Bt.of (B := 1) (by grind) a2.2.1) (by decide) (by decide) (by decide) : Sz 6 (upS (swR gs)[i]!).2.1), by omega, by omega⟩
variable (c : Conn2 B)
include c
theorem tab : TabP n (guessedR B (wQ ws) (gQ gs)) := by
  have h := C.gg
  have n3 := h.n3
  obtain ⟨D, D0, Dl, z⟩ := h.cellz c
  have hT := math_tl (rows := B) (ws := wQ ws) (gs := gQ gs) h.wl
  have ts : ∀ p q, p < n → q < n → ((guessedR B (wQ ws) (gQ gs))[p]!)[q]! = ((guessedR B (wQ ws) (gQ gs))[q]!)[p]! := fun p q hp hq => h.tsym c hp hq
  have tr : ∀ p, p < n → S (List.range n) (fun q => ((guessedR B (wQ ws) (gQ gs))[p]!)[q]!) = 0 := fun p hp => h.trow c hp
  generalize guessedR B (wQ ws) (gQ gs) = T at *
  have row : ∀ r ∈ T, ∃ p, p < n ∧ r = T[p]! := fun r hr => by
    obtain ⟨p, hp, e⟩ := List.mem_iff_getElem.mp hr
    exact ⟨p, by rw [← hT.1]; exact hp, by rw [getElem!_pos _ p hp, e]⟩
  refine ⟨hT.1, hT.2, fun r hr => ?_, fun r hr => ?_, ?_⟩
  · have hl := hT.2 r hr
    obtain ⟨p, hp, rfl⟩ := row r hr
    refine Zp.fitsL (D := D) (e := 785) (k := 807) (fun x hx => ?_) (by omega) (by decide) (by decide) D0 (by omega)
    obtain ⟨q, hq, e⟩ := List.mem_iff_getElem.mp hx
    have : x = (T[p]!)[q]! := by rw [getElem!_pos _ q hq, e]
    rw [this]
    obtain ⟨a, b⟩ := z p q hp (by omega)
    exact ⟨a, b, D0, by omega⟩
  · have hl := hT.2 r hr
    obtain ⟨p, hp, rfl⟩ := row r hr
    rw [sum_len hl]
    exact tr p hp
  · apply List.ext_getElem
    · rw [List.length_map, List.length_range, hT.1]
    · intro p h1 h2
      have hp : p < n := by simpa using h1
      have lp := hT.2 _ (List.getElem_mem h2)
      rw [List.getElem_map, List.getElem_range]
      apply List.ext_getElem
      · rw [List.length_map, List.length_range, lp]
      · intro q h3 h4
        have hq : q < n := by simpa using h3
        rw [List.getElem_map, List.getElem_range, ts q p hq hp]
        rw [getElem!_pos T p h2, getElem!_pos _ q h4]
theorem wtP {f : List Int} (hl : f.length = n) (hb : ∀ x ∈ f, -1 ≤ x ∧ x ≤ 2) : WtP (guessedR B (wQ ws) (gQ gs)) f := by
  have h := C.gg
  have n3 := h.n3
  obtain ⟨D, D0, Dl, z⟩ := h.cellz c
  have hT := math_tl (rows := B) (ws := wQ ws) (gs := gQ gs) h.wl
  generalize guessedR B (wQ ws) (gQ gs) = T at *
  have Dl' : D ≤ 2 ^ 785 := by omega
  have ez : ∀ r ∈ T, r.length = n ∧ ∀ x ∈ r, Zp D 785 807 x := fun r hr => by
    have rl := hT.2 r hr
    refine ⟨rl, fun x hx => ?_⟩
    obtain ⟨p, hp, e⟩ := List.mem_iff_getElem.mp hr
    obtain ⟨q, hq, e2⟩ := List.mem_iff_getElem.mp hx
    have er : r = T[p]! := by rw [getElem!_pos _ p hp, e]
    have : x = (T[p]!)[q]! := by rw [← er, getElem!_pos _ q hq, e2]
    rw [this]
    obtain ⟨a, b⟩ := z p q (by rw [← hT.1]; exact hp) (by omega)
    exact ⟨a, b, D0, Dl'⟩
  have fz : ∀ x ∈ f, Zp 1 0 1 (x : Rat) := fun x hx => zp_int (by have := hb x hx; omega)
  have wz : ∀ r ∈ T, ∀ x ∈ wtL f r, Zp (D * 1) (785 + 0) (807 + 1) x := fun r hr x hx => by
    obtain ⟨q, hq, rfl⟩ := List.mem_map.mp hx
    obtain ⟨q1, q2⟩ := List.of_mem_zip (show (q.1, q.2) ∈ _ from hq)
    exact ((ez r hr).2 _ q1).mul (fz _ q2)
  have wl : ∀ r ∈ T, (wtL f r).length ≤ 32 := fun r hr => by
    unfold wtL
    rw [List.length_map, List.length_zip, (ez r hr).1]
    omega
  have D1 : 0 < D * 1 := by omega
  have L1 : D * 1 ≤ 2 ^ (785 + 0) := by rw [Nat.mul_one]; exact Dl'
  have sz : ∀ p ∈ T.zip f, Zp (D * 1) (785 + 0) (807 + 1 + 5) (sumR (wtL f p.1)) ∧ Zp 1 0 1 ((p.2 : Int) : Rat) := fun p hp => by
    obtain ⟨q1, q2⟩ := List.of_mem_zip (show (p.1, p.2) ∈ _ from hp)
    exact ⟨Zp.sum (wz _ q1) (wl _ q1) D1 L1, fz _ q2⟩
  refine ⟨by rw [hT.1]; omega, fun r hr => by rw [hT.2 r hr]; omega, fun r hr q hq => ?_, fun r hr => Zp.fitsL (wz r hr) (wl r hr) (by decide) (by decide) D1 L1, fun p hp => (sz p hp).1.fits (sz p hp).2 (by decide) (by decide) (by decide), ?_⟩
  · obtain ⟨q1, q2⟩ := List.of_mem_zip (show (q.1, q.2) ∈ _ from hq)
    exact ((ez r hr).2 _ q1).fits (fz _ q2) (by decide) (by decide) (by decide)
  · refine Zp.fitsL (D := D * 1 * 1) (e := 785 + 0 + 0) (k := 807 + 1 + 5 + 1) (fun x hx => ?_) (by rw [List.length_map, List.length_zip, hT.1]; omega) (by decide) (by decide) (by omega) (by rw [Nat.mul_one]; exact L1)
    obtain ⟨p, hp, rfl⟩ := List.mem_map.mp hx
    exact (sz p hp).1.mul (sz p hp).2
end Cas3
end
theorem mathR : MathR where
  row := math_row
  t := fun _ _ _ _ C => C.tld
  cc := fun _ _ _ _ C => ⟨C.gg.conn2, C.gg.conn⟩
  w := fun _ _ _ _ C => C.wlk
  m := fun _ _ _ _ C c => C.tab c
  e := fun _ _ _ _ C c fs hF => ⟨C.errP c hF, fun f hf => C.wtP c (hF.2 f hf).1 (hF.2 f hf).2, C.errs c hF⟩
end Gw
set_option maxHeartbeats 0
namespace Gw
open PySem PySem.Spec PyProof.Rows L2 He
theorem nw_ok {K : PySem.W.Frag} {mg : Str → Option Value} (g : mg "NotWhole" = some (.ref (ga K "NotWhole"))) (h : xNw K = true) : NwF K mg (ga K "NotWhole") := by
  obtain ⟨h1, h⟩ := ba h
  obtain ⟨h2, h⟩ := ba h
  obtain ⟨h3, h⟩ := ba h
  obtain ⟨h4, h5⟩ := ba h
  refine ⟨g, h1, h2, of_decide_eq_true h3, ?_, of_decide_eq_true h5⟩
  cases e : PySem.W.typeIn K (.ref (ga K "NotWhole")) with
  | none => rw [e] at h4; cases h4
  | some v =>
    rw [e] at h4
    cases v with
    | type t =>
      rw [show t = "type" from eq_of_beq h4]
    | _ => cases h4
theorem relV_non : RelV .non .none := rfl
theorem Vals.getD {vs : List V} {us : List Value} (h : Vals vs us) : ∀ i : Nat, RelV (vs.getD i .non) (us.getD i .none) := by
  induction h with
  | nil => intro i; exact relV_non
  | cons r _ ih =>
    intro i
    cases i with
    | zero => exact r
    | succ i => exact ih i
theorem kbn_of {K : PySem.W.Frag} {x qual : Str} {params : Arguments} {body : List Stmt} {scope : Scope} {f : Addr} {fd : FuncData} {ps : List Str} (F : FunD K x qual params body scope [] [] f fd) (n : Nat) (ks : List Str) (g : List Value → List Value → List Value) (gV : List V → List V → List V)
    (hrel : ∀ {vs : List V} {us : List Value} {zs : List V} {ws : List Value}, Vals vs us → Vals zs ws → Vals (gV vs zs) (g us ws))
    (h : ∀ (kV doc pm : Value) (an : Option Addr) (cdv ct : Value) (us ws : List Value), us.length = n → ws.length = ks.length → bindArgs (PySem.W.fnOf x qual params body scope .none kV doc pm an cdv ct) ⟨us, ks.zip ws⟩ = pure (ps.zip (g us ws))) : KBn K fd ps n ks g gV := by
  obtain ⟨oc, od, dV, kV, doc, pm, an, cdv, ct, osl, rfl, lk, hcd, hD, hK⟩ := F.ex
  rcases hD with ⟨_, rfl⟩ | ⟨e, _⟩
  · exact ⟨fun s us ws X l1 l2 => .of_eq (h kV doc pm an cdv ct us ws l1 l2), hrel⟩
  · exact absurd rfl e
theorem hFacts {P : Program} {w : World} {K : PySem.W.Frag} {h : Heap} {mg : Str → Option Value} {f : Addr} (X : K.In h) (G : h.Ns mainGlobals mg) (hfa : mg ("law" : Str) = some (.ref f)) (c : SaysA hFa hFn hDa hEx K) :
    ∃ fd : FuncData, (∀ (s : Shared) (v : Value), BindsTo s fd ⟨[v], []⟩ [("script", v)]) ∧ ∀ base : Heap, K.In base → base.Ns mainGlobals mg → FnOk P w K mg base CX0 16 f fd ["script"] (spLaw K) := by
  obtain ⟨fd_is_integer, F_is_integer⟩ := c.d.def_ 0 (d := d_is_integer) rfl
  obtain ⟨fd_divisor_of, F_divisor_of⟩ := c.d.def_ 1 (d := d_divisor_of) rfl
  obtain ⟨fd_told_pair, F_told_pair⟩ := c.d.def_ 2 (d := d_told_pair) rfl
  obtain ⟨fd_is_number, F_is_number⟩ := c.d.def_ 3 (d := d_is_number) rfl
  obtain ⟨fd_ratio_of, F_ratio_of⟩ := c.d.def_ 4 (d := d_ratio_of) rfl
  obtain ⟨fd_want_number, F_want_number⟩ := c.d.def_ 5 (d := d_want_number) rfl
  obtain ⟨fd_is_list, F_is_list⟩ := c.d.def_ 6 (d := d_is_list) rfl
  obtain ⟨fd_total_of, F_total_of⟩ := c.d.def_ 7 (d := d_total_of) rfl
  obtain ⟨fd_wholes, F_wholes⟩ := c.d.def_ 8 (d := d_wholes) rfl
  obtain ⟨fd_ints_of, F_ints_of⟩ := c.d.def_ 9 (d := d_ints_of) rfl
  obtain ⟨fd_bare_row, F_bare_row⟩ := c.d.def_ 10 (d := d_bare_row) rfl
  obtain ⟨fd_cleared, F_cleared⟩ := c.d.def_ 11 (d := d_cleared) rfl
  obtain ⟨fd_first_at, F_first_at⟩ := c.d.def_ 12 (d := d_first_at) rfl
  obtain ⟨fd_headed_row, F_headed_row⟩ := c.d.def_ 13 (d := d_headed_row) rfl
  obtain ⟨fd_head_of, F_head_of⟩ := c.d.def_ 14 (d := d_head_of) rfl
  obtain ⟨fd_told_rows, F_told_rows⟩ := c.d.def_ 15 (d := d_told_rows) rfl
  obtain ⟨fd_int_steps, F_int_steps⟩ := c.d.def_ 16 (d := d_int_steps) rfl
  obtain ⟨fd_steps_of, F_steps_of⟩ := c.d.def_ 17 (d := d_steps_of) rfl
  obtain ⟨fd_are_numbers, F_are_numbers⟩ := c.d.def_ 18 (d := d_are_numbers) rfl
  obtain ⟨fd_is_table_of, F_is_table_of⟩ := c.d.def_ 19 (d := d_is_table_of) rfl
  obtain ⟨fd_told_table, F_told_table⟩ := c.d.def_ 20 (d := d_told_table) rfl
  obtain ⟨fd_are_chances, F_are_chances⟩ := c.d.def_ 21 (d := d_are_chances) rfl
  obtain ⟨fd_want_proposal, F_want_proposal⟩ := c.d.def_ 22 (d := d_want_proposal) rfl
  obtain ⟨fd_want_weights, F_want_weights⟩ := c.d.def_ 23 (d := d_want_weights) rfl
  obtain ⟨fd_is_part, F_is_part⟩ := c.d.def_ 24 (d := d_is_part) rfl
  obtain ⟨fd_guess_in, F_guess_in⟩ := c.d.def_ 25 (d := d_guess_in) rfl
  obtain ⟨fd_want_guesses, F_want_guesses⟩ := c.d.def_ 26 (d := d_want_guesses) rfl
  obtain ⟨fd_standings_of, F_standings_of⟩ := c.d.def_ 27 (d := d_standings_of) rfl
  obtain ⟨fd_want_at_most, F_want_at_most⟩ := c.d.def_ 28 (d := d_want_at_most) rfl
  obtain ⟨fd_flow_between, F_flow_between⟩ := c.d.def_ 29 (d := d_flow_between) rfl
  obtain ⟨fd_flows_of_standings, F_flows_of_standings⟩ := c.d.def_ 30 (d := d_flows_of_standings) rfl
  obtain ⟨fd_is_joined, F_is_joined⟩ := c.d.def_ 31 (d := d_is_joined) rfl
  obtain ⟨fd_worths_ahead, F_worths_ahead⟩ := c.d.def_ 32 (d := d_worths_ahead) rfl
  obtain ⟨fd_table_of_standings, F_table_of_standings⟩ := c.d.def_ 33 (d := d_table_of_standings) rfl
  obtain ⟨fd_guessed_table, F_guessed_table⟩ := c.d.def_ 34 (d := d_guessed_table) rfl
  obtain ⟨fd__law_draw, F__law_draw⟩ := c.d.def_ 35 (d := d__law_draw) rfl
  obtain ⟨fd__law_pot, F__law_pot⟩ := c.d.def_ 36 (d := d__law_pot) rfl
  obtain ⟨fd__law_pick, F__law_pick⟩ := c.d.def_ 37 (d := d__law_pick) rfl
  obtain ⟨fd__law_weights, F__law_weights⟩ := c.d.def_ 38 (d := d__law_weights) rfl
  obtain ⟨fd__law_proposal, F__law_proposal⟩ := c.d.def_ 39 (d := d__law_proposal) rfl
  obtain ⟨fd__law_two, F__law_two⟩ := c.d.def_ 40 (d := d__law_two) rfl
  obtain ⟨fd__law_handed, F__law_handed⟩ := c.d.def_ 41 (d := d__law_handed) rfl
  obtain ⟨fd__law_is_joined, F__law_is_joined⟩ := c.d.def_ 42 (d := d__law_is_joined) rfl
  obtain ⟨fd__law_three, F__law_three⟩ := c.d.def_ 43 (d := d__law_three) rfl
  obtain ⟨fd__law_standings, F__law_standings⟩ := c.d.def_ 44 (d := d__law_standings) rfl
  obtain ⟨fd__law_goes, F__law_goes⟩ := c.d.def_ 45 (d := d__law_goes) rfl
  obtain ⟨fd__law_chances, F__law_chances⟩ := c.d.def_ 46 (d := d__law_chances) rfl
  obtain ⟨fd__law_shares, F__law_shares⟩ := c.d.def_ 47 (d := d__law_shares) rfl
  obtain ⟨fd__law_solved, F__law_solved⟩ := c.d.def_ 48 (d := d__law_solved) rfl
  obtain ⟨fd__law_errors, F__law_errors⟩ := c.d.def_ 49 (d := d__law_errors) rfl
  obtain ⟨fd__law_worth, F__law_worth⟩ := c.d.def_ 50 (d := d__law_worth) rfl
  obtain ⟨fd__law_told, F__law_told⟩ := c.d.def_ 51 (d := d__law_told) rfl
  obtain ⟨fd__law_right, F__law_right⟩ := c.d.def_ 52 (d := d__law_right) rfl
  obtain ⟨fd_law, F_law⟩ := c.d.def_ 53 (d := d_law) rfl
  obtain ⟨fd_R__init__, F_R__init__⟩ := c.d.def_ 54 (d := d_R__init__) rfl
  obtain ⟨fd_R__add__, F_R__add__⟩ := c.d.def_ 55 (d := d_R__add__) rfl
  obtain ⟨fd_R__sub__, F_R__sub__⟩ := c.d.def_ 56 (d := d_R__sub__) rfl
  obtain ⟨fd_R__rsub__, F_R__rsub__⟩ := c.d.def_ 57 (d := d_R__rsub__) rfl
  obtain ⟨fd_R__mul__, F_R__mul__⟩ := c.d.def_ 58 (d := d_R__mul__) rfl
  obtain ⟨fd_Rover, F_Rover⟩ := c.d.def_ 59 (d := d_Rover) rfl
  obtain ⟨fd_Ris_below, F_Ris_below⟩ := c.d.def_ 60 (d := d_Ris_below) rfl
  obtain ⟨fd_R__eq__, F_R__eq__⟩ := c.d.def_ 61 (d := d_R__eq__) rfl
  obtain ⟨fd_Rsign, F_Rsign⟩ := c.a 0 (d := a_Rsign) rfl
  obtain ⟨fd_Rtop, F_Rtop⟩ := c.a 1 (d := a_Rtop) rfl
  obtain ⟨fd_Rtotal, F_Rtotal⟩ := c.a 2 (d := a_Rtotal) rfl
  obtain ⟨xn, x0⟩ := ba c.x
  obtain ⟨x1, x2⟩ := ba x0
  obtain ⟨x1a, x1b⟩ := ba x1
  obtain ⟨x3, x4⟩ := ba x2
  obtain ⟨x5, x6⟩ := ba x4
  obtain ⟨x7, x8⟩ := ba x6
  obtain ⟨x9, x10⟩ := ba x8
  obtain ⟨x11, x12⟩ := ba x10
  obtain ⟨x13, x14⟩ := ba x12
  have cl : Cls K (cRat K) := cls_ok (c.d.fact 74 (f := .cls "Ratio") rfl)
  have RF : RatF K (cRat K) := rat_ok x3 cl (noat_ok (c.d.fact 75 (f := .noat "Ratio" "own_top") rfl)) (noat_ok (c.d.fact 76 (f := .noat "Ratio" "own_bottom") rfl))
  have gR : mg ("Ratio" : Str) = some (.ref (cRat K)) := glo_ok X G (c.d.fact 73 (f := .glo "Ratio") rfl)
  have Z : Glo K mg (cRat K) := ⟨free_ok X G (c.d.fact 54 (f := .free "isinstance") rfl), free_ok X G (c.d.fact 55 (f := .free "int") rfl), free_ok X G (c.d.fact 56 (f := .free "bool") rfl), free_ok X G (c.d.fact 57 (f := .free "list") rfl), free_ok X G (c.d.fact 58 (f := .free "tuple") rfl), free_ok X G (c.d.fact 59 (f := .free "len") rfl), free_ok X G (c.d.fact 60 (f := .free "all") rfl), free_ok X G (c.d.fact 61 (f := .free "any") rfl), free_ok X G (c.d.fact 62 (f := .free "sum") rfl), free_ok X G (c.d.fact 63 (f := .free "zip") rfl), free_ok X G (c.d.fact 64 (f := .free "enumerate") rfl), free_ok X G (c.d.fact 65 (f := .free "range") rfl), free_ok X G (c.d.fact 66 (f := .free "abs") rfl), free_ok X G (c.d.fact 67 (f := .free "max") rfl), free_ok X G (c.d.fact 68 (f := .free "divmod") rfl), PySem.W.mg_of X G (eqO_ok x1a), PySem.W.mg_of X G (eqO_ok x1b), gR, int_ok X G (c.d.fact 69 (f := .int "LEAST_PLACES" 2) rfl), int_ok X G (c.d.fact 70 (f := .int "MOST_PLACES" 6) rfl), int_ok X G (c.d.fact 71 (f := .int "MOST_PARTS" 4) rfl), int_ok X G (c.d.fact 72 (f := .int "MOST_STANDINGS" 8) rfl), RF⟩
  have g_is_integer : mg ("is_integer" : Str) = some (.ref (ga K "is_integer")) := glo_ok X G (c.d.fact 0 (f := .glo "is_integer") rfl)
  have g_divisor_of : mg ("divisor_of" : Str) = some (.ref (ga K "divisor_of")) := glo_ok X G (c.d.fact 1 (f := .glo "divisor_of") rfl)
  have g_told_pair : mg ("told_pair" : Str) = some (.ref (ga K "told_pair")) := glo_ok X G (c.d.fact 2 (f := .glo "told_pair") rfl)
  have g_is_number : mg ("is_number" : Str) = some (.ref (ga K "is_number")) := glo_ok X G (c.d.fact 3 (f := .glo "is_number") rfl)
  have g_ratio_of : mg ("ratio_of" : Str) = some (.ref (ga K "ratio_of")) := glo_ok X G (c.d.fact 4 (f := .glo "ratio_of") rfl)
  have g_want_number : mg ("want_number" : Str) = some (.ref (ga K "want_number")) := glo_ok X G (c.d.fact 5 (f := .glo "want_number") rfl)
  have g_is_list : mg ("is_list" : Str) = some (.ref (ga K "is_list")) := glo_ok X G (c.d.fact 6 (f := .glo "is_list") rfl)
  have g_total_of : mg ("total_of" : Str) = some (.ref (ga K "total_of")) := glo_ok X G (c.d.fact 7 (f := .glo "total_of") rfl)
  have g_wholes : mg ("wholes" : Str) = some (.ref (ga K "wholes")) := glo_ok X G (c.d.fact 8 (f := .glo "wholes") rfl)
  have g_ints_of : mg ("ints_of" : Str) = some (.ref (ga K "ints_of")) := glo_ok X G (c.d.fact 9 (f := .glo "ints_of") rfl)
  have g_bare_row : mg ("bare_row" : Str) = some (.ref (ga K "bare_row")) := glo_ok X G (c.d.fact 10 (f := .glo "bare_row") rfl)
  have g_cleared : mg ("cleared" : Str) = some (.ref (ga K "cleared")) := glo_ok X G (c.d.fact 11 (f := .glo "cleared") rfl)
  have g_first_at : mg ("first_at" : Str) = some (.ref (ga K "first_at")) := glo_ok X G (c.d.fact 12 (f := .glo "first_at") rfl)
  have g_headed_row : mg ("headed_row" : Str) = some (.ref (ga K "headed_row")) := glo_ok X G (c.d.fact 13 (f := .glo "headed_row") rfl)
  have g_head_of : mg ("head_of" : Str) = some (.ref (ga K "head_of")) := glo_ok X G (c.d.fact 14 (f := .glo "head_of") rfl)
  have g_told_rows : mg ("told_rows" : Str) = some (.ref (ga K "told_rows")) := glo_ok X G (c.d.fact 15 (f := .glo "told_rows") rfl)
  have g_int_steps : mg ("int_steps" : Str) = some (.ref (ga K "int_steps")) := glo_ok X G (c.d.fact 16 (f := .glo "int_steps") rfl)
  have g_steps_of : mg ("steps_of" : Str) = some (.ref (ga K "steps_of")) := glo_ok X G (c.d.fact 17 (f := .glo "steps_of") rfl)
  have g_are_numbers : mg ("are_numbers" : Str) = some (.ref (ga K "are_numbers")) := glo_ok X G (c.d.fact 18 (f := .glo "are_numbers") rfl)
  have g_is_table_of : mg ("is_table_of" : Str) = some (.ref (ga K "is_table_of")) := glo_ok X G (c.d.fact 19 (f := .glo "is_table_of") rfl)
  have g_told_table : mg ("told_table" : Str) = some (.ref (ga K "told_table")) := glo_ok X G (c.d.fact 20 (f := .glo "told_table") rfl)
  have g_are_chances : mg ("are_chances" : Str) = some (.ref (ga K "are_chances")) := glo_ok X G (c.d.fact 21 (f := .glo "are_chances") rfl)
  have g_want_proposal : mg ("want_proposal" : Str) = some (.ref (ga K "want_proposal")) := glo_ok X G (c.d.fact 22 (f := .glo "want_proposal") rfl)
  have g_want_weights : mg ("want_weights" : Str) = some (.ref (ga K "want_weights")) := glo_ok X G (c.d.fact 23 (f := .glo "want_weights") rfl)
  have g_is_part : mg ("is_part" : Str) = some (.ref (ga K "is_part")) := glo_ok X G (c.d.fact 24 (f := .glo "is_part") rfl)
  have g_guess_in : mg ("guess_in" : Str) = some (.ref (ga K "guess_in")) := glo_ok X G (c.d.fact 25 (f := .glo "guess_in") rfl)
  have g_want_guesses : mg ("want_guesses" : Str) = some (.ref (ga K "want_guesses")) := glo_ok X G (c.d.fact 26 (f := .glo "want_guesses") rfl)
  have g_standings_of : mg ("standings_of" : Str) = some (.ref (ga K "standings_of")) := glo_ok X G (c.d.fact 27 (f := .glo "standings_of") rfl)
  have g_want_at_most : mg ("want_at_most" : Str) = some (.ref (ga K "want_at_most")) := glo_ok X G (c.d.fact 28 (f := .glo "want_at_most") rfl)
  have g_flow_between : mg ("flow_between" : Str) = some (.ref (ga K "flow_between")) := glo_ok X G (c.d.fact 29 (f := .glo "flow_between") rfl)
  have g_flows_of_standings : mg ("flows_of_standings" : Str) = some (.ref (ga K "flows_of_standings")) := glo_ok X G (c.d.fact 30 (f := .glo "flows_of_standings") rfl)
  have g_is_joined : mg ("is_joined" : Str) = some (.ref (ga K "is_joined")) := glo_ok X G (c.d.fact 31 (f := .glo "is_joined") rfl)
  have g_worths_ahead : mg ("worths_ahead" : Str) = some (.ref (ga K "worths_ahead")) := glo_ok X G (c.d.fact 32 (f := .glo "worths_ahead") rfl)
  have g_table_of_standings : mg ("table_of_standings" : Str) = some (.ref (ga K "table_of_standings")) := glo_ok X G (c.d.fact 33 (f := .glo "table_of_standings") rfl)
  have g_guessed_table : mg ("guessed_table" : Str) = some (.ref (ga K "guessed_table")) := glo_ok X G (c.d.fact 34 (f := .glo "guessed_table") rfl)
  have g__law_draw : mg ("_law_draw" : Str) = some (.ref (ga K "_law_draw")) := glo_ok X G (c.d.fact 35 (f := .glo "_law_draw") rfl)
  have g__law_pot : mg ("_law_pot" : Str) = some (.ref (ga K "_law_pot")) := glo_ok X G (c.d.fact 36 (f := .glo "_law_pot") rfl)
  have g__law_pick : mg ("_law_pick" : Str) = some (.ref (ga K "_law_pick")) := glo_ok X G (c.d.fact 37 (f := .glo "_law_pick") rfl)
  have g__law_weights : mg ("_law_weights" : Str) = some (.ref (ga K "_law_weights")) := glo_ok X G (c.d.fact 38 (f := .glo "_law_weights") rfl)
  have g__law_proposal : mg ("_law_proposal" : Str) = some (.ref (ga K "_law_proposal")) := glo_ok X G (c.d.fact 39 (f := .glo "_law_proposal") rfl)
  have g__law_two : mg ("_law_two" : Str) = some (.ref (ga K "_law_two")) := glo_ok X G (c.d.fact 40 (f := .glo "_law_two") rfl)
  have g__law_handed : mg ("_law_handed" : Str) = some (.ref (ga K "_law_handed")) := glo_ok X G (c.d.fact 41 (f := .glo "_law_handed") rfl)
  have g__law_is_joined : mg ("_law_is_joined" : Str) = some (.ref (ga K "_law_is_joined")) := glo_ok X G (c.d.fact 42 (f := .glo "_law_is_joined") rfl)
  have g__law_three : mg ("_law_three" : Str) = some (.ref (ga K "_law_three")) := glo_ok X G (c.d.fact 43 (f := .glo "_law_three") rfl)
  have g__law_standings : mg ("_law_standings" : Str) = some (.ref (ga K "_law_standings")) := glo_ok X G (c.d.fact 44 (f := .glo "_law_standings") rfl)
  have g__law_goes : mg ("_law_goes" : Str) = some (.ref (ga K "_law_goes")) := glo_ok X G (c.d.fact 45 (f := .glo "_law_goes") rfl)
  have g__law_chances : mg ("_law_chances" : Str) = some (.ref (ga K "_law_chances")) := glo_ok X G (c.d.fact 46 (f := .glo "_law_chances") rfl)
  have g__law_shares : mg ("_law_shares" : Str) = some (.ref (ga K "_law_shares")) := glo_ok X G (c.d.fact 47 (f := .glo "_law_shares") rfl)
  have g__law_solved : mg ("_law_solved" : Str) = some (.ref (ga K "_law_solved")) := glo_ok X G (c.d.fact 48 (f := .glo "_law_solved") rfl)
  have g__law_errors : mg ("_law_errors" : Str) = some (.ref (ga K "_law_errors")) := glo_ok X G (c.d.fact 49 (f := .glo "_law_errors") rfl)
  have g__law_worth : mg ("_law_worth" : Str) = some (.ref (ga K "_law_worth")) := glo_ok X G (c.d.fact 50 (f := .glo "_law_worth") rfl)
  have g__law_told : mg ("_law_told" : Str) = some (.ref (ga K "_law_told")) := glo_ok X G (c.d.fact 51 (f := .glo "_law_told") rfl)
  have g__law_right : mg ("_law_right" : Str) = some (.ref (ga K "_law_right")) := glo_ok X G (c.d.fact 52 (f := .glo "_law_right") rfl)
  have g_law : mg ("law" : Str) = some (.ref (ga K "law")) := glo_ok X G (c.d.fact 53 (f := .glo "law") rfl)
  have T : NwF K mg (ga K "NotWhole") := nw_ok (glo_ok X G (c.d.fact 80 (f := .glo "NotWhole") rfl)) xn
  have e := hfa.symm.trans g_law
  cases e
  have b := FunD.bindsA (ps := ["script"]) F_law fun _ _ _ _ _ _ us hl => match us, hl with | [_], _ => rfl
  refine ⟨fd_law, fun s v => b s [v] rfl, fun base _ _ => ?_⟩
  have k__law_pot : Kn__law_pot P w K mg base (cRat K) := ⟨_, _, g__law_pot, F__law_pot.kp, F__law_pot.bindsN fun _ _ _ _ _ _ us hl => match us, hl with | [_, _], _ => rfl, (ok__law_pot Z F__law_pot)⟩
  have k_is_integer : Kn_is_integer P w K mg base (cRat K) := ⟨_, _, g_is_integer, F_is_integer.kp, F_is_integer.bindsN fun _ _ _ _ _ _ us hl => match us, hl with | [_], _ => rfl, (ok_is_integer Z F_is_integer)⟩
  have k_divisor_of : Kn_divisor_of P w K mg base (cRat K) := ⟨_, _, g_divisor_of, F_divisor_of.kp, F_divisor_of.bindsN fun _ _ _ _ _ _ us hl => match us, hl with | [_, _], _ => rfl, (ok_divisor_of Z F_divisor_of)⟩
  have mk : Mkr P w K mg base (cRat K) 2 := by
    obtain ⟨d0, v0, b0⟩ := F_R__init__.binds1 (ps := ["self", "top", "bottom"]) 3 1 (by intro q; cases q) rfl fun _ _ _ _ _ _ _ us its hl h2 => match us, its, hl, h2 with | [_, _, _], [_], _, _ => ⟨_, rfl, rfl⟩
    obtain ⟨d1, v1, b1⟩ := F_R__init__.binds1 (ps := ["self", "top", "bottom"]) 2 0 (by intro q; cases q) rfl fun _ _ _ _ _ _ _ us its hl h2 => match us, its, hl, h2 with | [_, _], [_], _, _ => ⟨_, rfl, rfl⟩
    cases v0
    exact ⟨gR, _, _, d1, mkr_ok (c.d.fact 77 (f := .mkr "Ratio") rfl), (ok_R__init__ Z k_is_integer k_divisor_of F_R__init__), b0, v1, b1⟩
  have oeq : EqK P w K mg base (cRat K) 1 := by
    obtain ⟨q1, q2, q3, q4⟩ := eq_ok x11
    exact ⟨_, _, q1, q2, q3, q4, (ok_R__eq__ Z F_R__eq__), F_R__eq__.bindsN fun _ _ _ _ _ _ us hl => match us, hl with | [_, _], _ => rfl⟩
  have psign : PropK P w K mg base (cRat K) "sign" 1 (sp_Rsign (cRat K)) := ⟨_, _, _, cl, prop_ok x13, (ok_Rsign Z F_Rsign), F_Rsign.bindsN fun _ _ _ _ _ _ us hl => match us, hl with | [_], _ => rfl⟩
  have k_is_list : Kn_is_list P w K mg base (cRat K) := ⟨_, _, g_is_list, F_is_list.kp, F_is_list.bindsN fun _ _ _ _ _ _ us hl => match us, hl with | [_], _ => rfl, (ok_is_list Z F_is_list)⟩
  have k_told_pair : Kn_told_pair P w K mg base (cRat K) := ⟨_, _, g_told_pair, F_told_pair.kp, F_told_pair.bindsN fun _ _ _ _ _ _ us hl => match us, hl with | [_], _ => rfl, (ok_told_pair Z k_is_integer F_told_pair)⟩
  have oadd : Opr P w K mg base (cRat K) .Add 6 (fun w => Fits w.1 w.2) (· + ·) := ⟨_, _, _, op_ok x5, (ok_R__add__ Z mk k_told_pair F_R__add__), F_R__add__.bindsN fun _ _ _ _ _ _ us hl => match us, hl with | [_, _], _ => rfl⟩
  have k_total_of : Kn_total_of P w K mg base (cRat K) := ⟨_, _, g_total_of, F_total_of.kp, F_total_of.bindsN fun _ _ _ _ _ _ us hl => match us, hl with | [_], _ => rfl, (ok_total_of Z mk oadd F_total_of)⟩
  have k_is_number : Kn_is_number P w K mg base (cRat K) := ⟨_, _, g_is_number, F_is_number.kp, F_is_number.bindsN fun _ _ _ _ _ _ us hl => match us, hl with | [_], _ => rfl, (ok_is_number Z k_is_integer F_is_number)⟩
  have k_ratio_of : Kn_ratio_of P w K mg base (cRat K) := ⟨_, _, g_ratio_of, F_ratio_of.kp, F_ratio_of.bindsN fun _ _ _ _ _ _ us hl => match us, hl with | [_], _ => rfl, (ok_ratio_of Z mk F_ratio_of)⟩
  have k_want_number : Kn_want_number P w K mg base (cRat K) := ⟨_, _, g_want_number, F_want_number.kp, F_want_number.bindsN fun _ _ _ _ _ _ us hl => match us, hl with | [_], _ => rfl, (ok_want_number Z k_is_number k_ratio_of F_want_number)⟩
  have ctotal : CmK P w K mg base (cRat K) "total" 12 (sp_Rtotal (cRat K)) := by
    obtain ⟨q1, q2⟩ := cm_ok (ba x14).2
    refine ⟨_, _, _, q1, q2, ((FnOk.raw (ok_Rtotal Z k_is_list k_total_of k_want_number F_Rtotal) (F_Rtotal.bindsN fun _ _ _ _ _ _ us hl => match us, hl with | [_, _], _ => rfl) .nil).mono (by decide)).imp fun vs H Q E hs => ?_⟩
    rw [List.append_nil]
    exact hs
  have k__law_draw : Kn__law_draw P w K mg base (cRat K) := ⟨_, _, g__law_draw, F__law_draw.kp, F__law_draw.bindsN fun _ _ _ _ _ _ us hl => match us, hl with | [_, _], _ => rfl, (ok__law_draw Z F__law_draw)⟩
  have k__law_pick : Kn__law_pick P w K mg base (cRat K) := ⟨_, _, g__law_pick, F__law_pick.kp, F__law_pick.bindsN fun _ _ _ _ _ _ us hl => match us, hl with | [_, _], _ => rfl, (ok__law_pick Z k__law_draw F__law_pick)⟩
  have k__law_proposal : Kn__law_proposal P w K mg base (cRat K) := ⟨_, _, g__law_proposal, F__law_proposal.kp, F__law_proposal.bindsN fun _ _ _ _ _ _ us hl => match us, hl with | [_, _], _ => rfl, (ok__law_proposal Z k__law_draw mk F__law_proposal)⟩
  have k__law_weights : Kn__law_weights P w K mg base (cRat K) := ⟨_, _, g__law_weights, F__law_weights.kp, F__law_weights.bindsN fun _ _ _ _ _ _ us hl => match us, hl with | [_, _], _ => rfl, (ok__law_weights Z k__law_draw F__law_weights)⟩
  have k__law_two : Kn__law_two P w K mg base (cRat K) := ⟨_, _, g__law_two, F__law_two.kp, F__law_two.bindsN fun _ _ _ _ _ _ us hl => match us, hl with | [_], _ => rfl, (ok__law_two Z mk oadd k__law_pick F__law_two)⟩
  have k__law_three : Kn__law_three P w K mg base (cRat K) := ⟨_, _, g__law_three, F__law_three.kp, F__law_three.bindsN fun _ _ _ _ _ _ us hl => match us, hl with | [_], _ => rfl, (ok__law_three Z mk k__law_draw k__law_pick F__law_three)⟩
  have k__law_is_joined : Kn__law_is_joined P w K mg base (cRat K) := ⟨_, _, g__law_is_joined, F__law_is_joined.kp, F__law_is_joined.bindsN fun _ _ _ _ _ _ us hl => match us, hl with | [_], _ => rfl, (ok__law_is_joined Z psign F__law_is_joined)⟩
  have k_are_numbers : Kn_are_numbers P w K mg base (cRat K) := ⟨_, _, g_are_numbers, F_are_numbers.kp, F_are_numbers.bindsN fun _ _ _ _ _ _ us hl => match us, hl with | [_, _], _ => rfl, (ok_are_numbers Z k_is_list k_is_number F_are_numbers)⟩
  have k_is_table_of : Kn_is_table_of P w K mg base (cRat K) := ⟨_, _, g_is_table_of, F_is_table_of.kp, F_is_table_of.bindsN fun _ _ _ _ _ _ us hl => match us, hl with | [_, _], _ => rfl, (ok_is_table_of Z k_is_list k_are_numbers F_is_table_of)⟩
  have k_told_table : Kn_told_table P w K mg base (cRat K) := ⟨_, _, g_told_table, F_told_table.kp, F_told_table.bindsN fun _ _ _ _ _ _ us hl => match us, hl with | [_], _ => rfl, (ok_told_table Z k_ratio_of F_told_table)⟩
  have k_are_chances : Kn_are_chances P w K mg base (cRat K) := ⟨_, _, g_are_chances, F_are_chances.kp, F_are_chances.bindsN fun _ _ _ _ _ _ us hl => match us, hl with | [_], _ => rfl, (ok_are_chances Z psign k_total_of mk oeq F_are_chances)⟩
  have k_want_proposal : Kn_want_proposal P w K mg base (cRat K) := ⟨_, _, g_want_proposal, F_want_proposal.kp, F_want_proposal.bindsN fun _ _ _ _ _ _ us hl => match us, hl with | [_], _ => rfl, (ok_want_proposal Z k_is_list k_is_table_of k_told_table k_are_chances F_want_proposal)⟩
  have k_want_weights : Kn_want_weights P w K mg base (cRat K) := ⟨_, _, g_want_weights, F_want_weights.kp, F_want_weights.bindsN fun _ _ _ _ _ _ us hl => match us, hl with | [_, _], _ => rfl, (ok_want_weights Z k_are_numbers k_ratio_of psign F_want_weights)⟩
  have k_standings_of : Kn_standings_of P w K mg base (cRat K) := ⟨_, _, g_standings_of, F_standings_of.kp, F_standings_of.bindsN fun _ _ _ _ _ _ us hl => match us, hl with | [_], _ => rfl, (ok_standings_of Z psign F_standings_of)⟩
  have k_is_part : Kn_is_part P w K mg base (cRat K) := ⟨_, _, g_is_part, F_is_part.kp, F_is_part.bindsN fun _ _ _ _ _ _ us hl => match us, hl with | [_], _ => rfl, (ok_is_part Z k_is_number k_ratio_of psign F_is_part)⟩
  have mbelow : MethK P w K mg base (cRat K) "is_below" 6 ["self", "other"] (sp_Ris_below (cRat K)) := ⟨_, _, cl, meth_ok (c.d.fact 79 (f := .meth "Ratio" "is_below") rfl), (ok_Ris_below Z k_told_pair F_Ris_below), F_Ris_below.bindsN fun _ _ _ _ _ _ us hl => match us, hl with | [_, _], _ => rfl⟩
  have omul : Opr P w K mg base (cRat K) .Mult 6 (fun w => Fits w.1 w.2) (· * ·) := ⟨_, _, _, op_ok x9, (ok_R__mul__ Z mk k_told_pair F_R__mul__), F_R__mul__.bindsN fun _ _ _ _ _ _ us hl => match us, hl with | [_, _], _ => rfl⟩
  have k_guess_in : Kn_guess_in P w K mg base (cRat K) := ⟨_, _, g_guess_in, F_guess_in.kp, F_guess_in.bindsN fun _ _ _ _ _ _ us hl => match us, hl with | [_], _ => rfl, (ok_guess_in Z k_is_list k_is_part k_ratio_of mbelow omul k_total_of mk oeq F_guess_in)⟩
  have k_want_guesses : Kn_want_guesses P w K mg base (cRat K) := ⟨_, _, g_want_guesses, F_want_guesses.kp, F_want_guesses.bindsN fun _ _ _ _ _ _ us hl => match us, hl with | [_, _], _ => rfl, (ok_want_guesses Z k_is_list k_guess_in F_want_guesses)⟩
  have k_flow_between : Kn_flow_between P w K mg base (cRat K) := ⟨_, _, g_flow_between, F_flow_between.kp, F_flow_between.bindsN fun _ _ _ _ _ _ us hl => match us, hl with | [_, _, _, _], _ => rfl, (ok_flow_between Z omul mbelow F_flow_between)⟩
  have k_flows_of_standings : Kn_flows_of_standings P w K mg base (cRat K) := ⟨_, _, g_flows_of_standings, F_flows_of_standings.kp, F_flows_of_standings.bindsN fun _ _ _ _ _ _ us hl => match us, hl with | [_, _, _], _ => rfl, (ok_flows_of_standings Z mk k_flow_between F_flows_of_standings)⟩
  have k_is_joined : Kn_is_joined P w K mg base (cRat K) := ⟨_, _, g_is_joined, F_is_joined.kp, F_is_joined.bindsN fun _ _ _ _ _ _ us hl => match us, hl with | [_], _ => rfl, (ok_is_joined Z psign F_is_joined)⟩
  have k_want_at_most : Kn_want_at_most P w K mg base (cRat K) := ⟨_, _, g_want_at_most, F_want_at_most.kp, F_want_at_most.bindsN fun _ _ _ _ _ _ us hl => match us, hl with | [_, _, _], _ => rfl, (ok_want_at_most  F_want_at_most)⟩
  have osub : Opr P w K mg base (cRat K) .Sub 6 (fun w => Fits w.1 w.2) (· - ·) := ⟨_, _, _, op_ok x7, (ok_R__sub__ Z mk k_told_pair F_R__sub__), F_R__sub__.bindsN fun _ _ _ _ _ _ us hl => match us, hl with | [_, _], _ => rfl⟩
  have orsub : OprR P w K mg base (cRat K) .Sub 6 (fun w => Fits w.1 w.2) (fun q r => r - q) := ⟨_, _, _, op_ok x7, (ok_R__rsub__ Z mk k_told_pair F_R__rsub__), F_R__rsub__.bindsN fun _ _ _ _ _ _ us hl => match us, hl with | [_, _], _ => rfl⟩
  have mover : MethK P w K mg base (cRat K) "over" 6 ["self", "other"] (sp_Rover (cRat K)) := ⟨_, _, cl, meth_ok (c.d.fact 78 (f := .meth "Ratio" "over") rfl), (ok_Rover Z mk k_told_pair F_Rover), F_Rover.bindsN fun _ _ _ _ _ _ us hl => match us, hl with | [_, _], _ => rfl⟩
  have k_head_of : Kn_head_of P w K mg base (cRat K) := ⟨_, _, g_head_of, F_head_of.kp, F_head_of.bindsN fun _ _ _ _ _ _ us hl => match us, hl with | [_], _ => rfl, (ok_head_of Z F_head_of)⟩
  have k_told_rows : Kn_told_rows P w K mg base (cRat K) := ⟨_, _, g_told_rows, F_told_rows.kp, F_told_rows.bindsN fun _ _ _ _ _ _ us hl => match us, hl with | [_], _ => rfl, (ok_told_rows Z mk k_head_of F_told_rows)⟩
  have k_first_at : Kn_first_at P w K mg base (cRat K) := ⟨_, _, g_first_at, F_first_at.kp, F_first_at.bindsN fun _ _ _ _ _ _ us hl => match us, hl with | [_, _], _ => rfl, (ok_first_at Z F_first_at)⟩
  have k_bare_row : Kn_bare_row P w K mg base (cRat K) := ⟨_, _, g_bare_row, F_bare_row.kp, F_bare_row.bindsN fun _ _ _ _ _ _ us hl => match us, hl with | [_], _ => rfl, (ok_bare_row Z k_divisor_of F_bare_row)⟩
  have k_headed_row : Kn_headed_row P w K mg base (cRat K) := ⟨_, _, g_headed_row, F_headed_row.kp, F_headed_row.bindsN fun _ _ _ _ _ _ us hl => match us, hl with | [_, _], _ => rfl, (ok_headed_row Z k_bare_row F_headed_row)⟩
  have k_cleared : Kn_cleared P w K mg base (cRat K) := ⟨_, _, g_cleared, F_cleared.kp, F_cleared.bindsN fun _ _ _ _ _ _ us hl => match us, hl with | [_, _, _], _ => rfl, (ok_cleared Z k_bare_row F_cleared)⟩
  have k_int_steps : Kn_int_steps P w K mg base (cRat K) := ⟨_, _, g_int_steps, F_int_steps.kp, F_int_steps.bindsN fun _ _ _ _ _ _ us hl => match us, hl with | [_], _ => rfl, (ok_int_steps Z k_first_at k_headed_row k_cleared F_int_steps)⟩
  have k_wholes : Kn_wholes P w K mg base (cRat K) := ⟨_, _, g_wholes, F_wholes.kp, F_wholes.bindsN fun _ _ _ _ _ _ us hl => match us, hl with | [_], _ => rfl, (ok_wholes Z F_wholes)⟩
  have k_ints_of : Kn_ints_of P w K mg base (cRat K) := ⟨_, _, g_ints_of, F_ints_of.kp, F_ints_of.bindsN fun _ _ _ _ _ _ us hl => match us, hl with | [_], _ => rfl, (ok_ints_of Z k_wholes F_ints_of)⟩
  have k_steps_of : Kn_steps_of P w K mg base (cRat K) := ⟨_, _, g_steps_of, F_steps_of.kp, F_steps_of.bindsN fun _ _ _ _ _ _ us hl => match us, hl with | [_], _ => rfl, (ok_steps_of Z k_told_rows k_int_steps k_ints_of F_steps_of)⟩
  have ptop : PropK P w K mg base (cRat K) "top" 1 (sp_Rtop (cRat K)) := ⟨_, _, _, cl, prop_ok (ba x14).1, (ok_Rtop Z F_Rtop), F_Rtop.bindsN fun _ _ _ _ _ _ us hl => match us, hl with | [_], _ => rfl⟩
  have k_worths_ahead : Kn_worths_ahead P w K mg base (cRat K) := ⟨_, _, g_worths_ahead, F_worths_ahead.kp, F_worths_ahead.bindsN fun _ _ _ _ _ _ us hl => match us, hl with | [_, _], _ => rfl, (ok_worths_ahead Z mk osub k_total_of k_steps_of k_head_of ptop F_worths_ahead)⟩
  have k_table_of_standings : Kn_table_of_standings P w K mg base (cRat K) := ⟨_, _, g_table_of_standings, F_table_of_standings.kp, F_table_of_standings.bindsN fun _ _ _ _ _ _ us hl => match us, hl with | [_, _, _], _ => rfl, (ok_table_of_standings Z omul osub orsub mover k_total_of k_worths_ahead F_table_of_standings)⟩
  have kgt : KnGt P w K mg base (cRat K) (ga K "NotWhole") := ⟨_, _, fun _ ws => [ws.getD 0 .none, ws.getD 2 .none, ws.getD 1 .none], g_guessed_table, F_guessed_table.kp, kbn_of F_guessed_table 0 ["proposal", "guesses", "weights"] _ _ (fun _ r => .cons (Vals.getD r 0) (.cons (Vals.getD r 2) (.cons (Vals.getD r 1) .nil))) (fun _ _ _ _ _ _ us ws hl h2 => match us, ws, hl, h2 with | [], [_, _, _], _, _ => rfl), (ok_guessed_table Z T k_want_proposal k_want_weights k_standings_of k_want_guesses k_flows_of_standings k_is_joined k_want_at_most k_table_of_standings F_guessed_table)⟩
  have k__law_handed : Kn__law_handed P w K mg base (cRat K) := ⟨_, _, g__law_handed, F__law_handed.kp, F__law_handed.bindsN fun _ _ _ _ _ _ us hl => match us, hl with | [_], _ => rfl, (ok__law_handed Z mk F__law_handed)⟩
  have k__law_told : Kn__law_told P w K mg base (cRat K) := ⟨_, _, g__law_told, F__law_told.kp, F__law_told.bindsN fun _ _ _ _ _ _ us hl => match us, hl with | [_, _, _], _ => rfl, (ok__law_told Z T kgt k__law_handed F__law_told)⟩
  have k__law_standings : Kn__law_standings P w K mg base (cRat K) := ⟨_, _, g__law_standings, F__law_standings.kp, F__law_standings.bindsN fun _ _ _ _ _ _ us hl => match us, hl with | [_], _ => rfl, (ok__law_standings Z F__law_standings)⟩
  have k__law_goes : Kn__law_goes P w K mg base (cRat K) := ⟨_, _, g__law_goes, F__law_goes.kp, F__law_goes.bindsN fun _ _ _ _ _ _ us hl => match us, hl with | [_, _, _, _], _ => rfl, (ok__law_goes Z mk omul mover mbelow psign F__law_goes)⟩
  have k__law_chances : Kn__law_chances P w K mg base (cRat K) := ⟨_, _, g__law_chances, F__law_chances.kp, F__law_chances.bindsN fun _ _ _ _ _ _ us hl => match us, hl with | [_, _, _], _ => rfl, (ok__law_chances Z mk orsub ctotal k__law_goes F__law_chances)⟩
  have k__law_shares : Kn__law_shares P w K mg base (cRat K) := ⟨_, _, g__law_shares, F__law_shares.kp, F__law_shares.bindsN fun _ _ _ _ _ _ us hl => match us, hl with | [_, _], _ => rfl, (ok__law_shares Z mk omul F__law_shares)⟩
  have k__law_solved : Kn__law_solved P w K mg base (cRat K) := ⟨_, _, g__law_solved, F__law_solved.kp, F__law_solved.bindsN fun _ _ _ _ _ _ us hl => match us, hl with | [_, _], _ => rfl, (ok__law_solved Z osub omul mover psign F__law_solved)⟩
  have k__law_errors : Kn__law_errors P w K mg base (cRat K) := ⟨_, _, g__law_errors, F__law_errors.kp, F__law_errors.bindsN fun _ _ _ _ _ _ us hl => match us, hl with | [_, _, _], _ => rfl, (ok__law_errors Z mk oadd osub orsub omul ctotal k__law_solved F__law_errors)⟩
  have k__law_worth : Kn__law_worth P w K mg base (cRat K) := ⟨_, _, g__law_worth, F__law_worth.kp, F__law_worth.bindsN fun _ _ _ _ _ _ us hl => match us, hl with | [_, _], _ => rfl, (ok__law_worth Z omul ctotal F__law_worth)⟩
  have k__law_right : Kn__law_right P w K mg base (cRat K) := ⟨_, _, g__law_right, F__law_right.kp, F__law_right.bindsN fun _ _ _ _ _ _ us hl => match us, hl with | [_], _ => rfl, (ok__law_right Z mathR mk oeq psign ctotal k__law_draw k__law_pick k__law_proposal k__law_weights k__law_two k__law_three k__law_is_joined k__law_told k__law_standings k__law_chances k__law_shares k__law_errors k__law_worth F__law_right)⟩
  exact ok_law Z k__law_pot k__law_right F_law
end Gw
set_option maxHeartbeats 0
open PySem PySem.W PySem.Calls PyProof.Rows
theorem PySem.Challenge.cw_walkworths_k83_whole_tables_of_guessed_w_holds : PySem.Challenge.rw_walkworths_k83_whole_tables_of_guessed_w.Holds := by
  w_on; o_law
  refine HandSHeadRun.head_imp (r := Gw.hR) (q := view Gw.hR.prog [0, 80]) (H := Gw.hk) (ob := Gw.hOb) (M := 20000) (loose := Gw.hLoose) (d := HandSHeadRun.topDef Gw.hR.prog 80) (kwd := []) Gw.hOb_eq Gw.hRun
    (by kernel_rfl) (by kernel_rfl) (by kernel_rfl) (by rfl) (by first | assumption | decide +kernel) (by decide +kernel) ⟨rfl, rfl, rfl, rfl, rfl, by decide +kernel⟩ ?hw ?hc
  case hw => w_witness2
  case hc =>
    refine L2.walk_ofE (l := PySem.Challenge.rw_walkworths_k83_whole_tables_of_guessed_w) (n := 63) (k := 16) (x := "script") (CX := L2.CX0) rfl (by decide) (by kernel_rfl) ⟨rfl, by decide, by decide⟩ ?F (fun _ _ _ _ z => z)
    intro w mg fa h Y G hmg0
    obtain ⟨K, KX, c⟩ := Y
    have hmg : mg ("law" : PySem.Str) = some (.ref fa) := by
      have e : (HandSHeadRun.topDef Gw.hR.prog 80).name = ("law" : PySem.Str) := by kernel_rfl
      rw [← e]
      exact hmg0
    obtain ⟨fd, hb, hF⟩ := Gw.hFacts (P := (PySem.Challenge.rw_walkworths_k83_whole_tables_of_guessed_w).prog) (w := w) KX G hmg c
    exact ⟨K, fd, Gw.spLaw K, KX, hb, fun H a ns hl _ hS => ⟨a, ns, rfl, hS, fun _ => rfl⟩, hF⟩
