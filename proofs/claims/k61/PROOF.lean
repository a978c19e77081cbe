import PyProof.Rows.All
import Wide.All
import OpenK.AllK
import Wide.FinOn
import PySem.Challenge.RW_flagclause_k61_whole_shortest_chains
import HandS.ForMost
import HandS.ForExc
import KE.SortData
import HandS.IsInst
import HandS.Deep
import HandS.TupAny
import HandS.Wide
import HandS.WideBits
import KE.KDictCopyH
import KE.KTupTabMore
import KE.KDictSum
import HandS.DictComp
import HandS.TupSets
import KE.DatumOrd
import HandS.Style
import PyProof.P3Eq
import PyProof.ListOps
import KE.GoesEnum
import KE.KDictDisplayH
import KE.DataEq
import KE.SortKeyHeap
import HandS.EndTab
import HandS.ExcInit
import HandS.ExcField
import HandS.ExcIs
import HandS.ClsMeth
import HandS.SetFor
import KE.KExcIs
import HandS.Words
set_option Elab.async false
set_option linter.all false
set_option maxRecDepth 100000
set_option maxHeartbeats 4000000
/-! FcA: a heap-free logic over HandS: what is read off values (Rp), what a frame owns (Ow), the readings tE, tT, tS. -/
namespace Fc
open PySem PySem.Spec PyProof.Rows L2

/-! ### readings of values -/
/-- what is known of a value, stable while the heap grows -/
structure Rp where
  p : V → Hp → Prop
  mono : ∀ {v : V} {H H' : Hp}, Same H H' → p v H → p v H'
/-- what a frame owns at an address: the address, the shared heap, the whole heap -/
structure Ow where
  p : Addr → Hp → Hp → Prop
  there : ∀ {a : Addr} {B H : Hp}, p a B H → H a ≠ none
  mono : ∀ {a : Addr} {B H B' H' : Hp}, Same B B' → H' a = H a → p a B H → p a B' H'
inductive Sl where
  | no
  | per (r : Rp)
  | own (c : Ow)
abbrev Rho := List Sl

/-- F: what must stay; B: what is shared and stays; H: all -/
structure Split (F B H : Hp) : Prop where
  bas : Same B H
  frm : ∀ a o, F a = some o → H a = some o
  dis : ∀ a o, F a = some o → B a = none
structure Evn (F B H : Hp) (σ : L2.St) (ρ : Rho) : Prop where
  sp : Split F B H
  len : ρ.length = σ.length
  per : ∀ (i : Nat) r, ρ[i]? = some (.per r) → ∃ v, σ[i]? = some (some v) ∧ r.p v B
  own : ∀ (i : Nat) c, ρ[i]? = some (.own c) → ∃ a, σ[i]? = some (some (.ref a)) ∧ B a = none ∧ F a = none ∧ c.p a B H
  sep : ∀ (i j : Nat) c d a, ρ[i]? = some (.own c) → ρ[j]? = some (.own d) → σ[i]? = some (some (.ref a)) → σ[j]? = some (some (.ref a)) → i = j

/-- the heap grows, what is new and shared stands in B' -/
structure Grow (B H B' H' : Hp) : Prop where
  up : Same H H'
  bup : Same B B'
  sub : Same B' H'
  new : ∀ a, B a = none → H a ≠ none → B' a = none
theorem Grow.refl {B H : Hp} (h : Same B H) : Grow B H B H := ⟨Same.refl H, Same.refl B, h, fun _ h _ => h⟩
theorem some_ne {α : Type} {o : Option α} {x : α} (h : o = some x) : o ≠ none := fun z => by rw [z] at h; cases h
theorem ne_some {α : Type} {o : Option α} (h : o ≠ none) : ∃ x, o = some x := by
  cases o with
  | none => exact absurd rfl h
  | some x => exact ⟨x, rfl⟩
theorem same_new {H : Hp} {p : Addr} {o : HO} (h : H p = none) : Same H (upd H p o) := fun b x e => by
  rw [upd_ne (ne_of_none e h)]
  exact e
theorem same_both {B H : Hp} {p : Addr} {o : HO} (s : Same B H) : Same (upd B p o) (upd H p o) := fun b x e => by
  by_cases h : b = p
  · subst h
    rw [upd_same] at e ⊢
    exact e
  · rw [upd_ne h] at e ⊢
    exact s _ _ e
theorem same_at {B H : Hp} {p : Addr} {o : HO} (s : Same B H) (h : H p = some o) : Same (upd B p o) H := fun b x e => by
  by_cases hb : b = p
  · subst hb
    rw [upd_same] at e
    rw [h]
    exact e
  · rw [upd_ne hb] at e
    exact s _ _ e
/-- an object that the shared part does not know may change -/
theorem same_mut {B H : Hp} {p : Addr} {o : HO} (s : Same B H) (h : B p = none) : Same B (upd H p o) := fun a u ha => by
  rw [upd_ne (ne_of_none ha h)]
  exact s a u ha
theorem free_back {H H' : Hp} {p : Addr} (e : Same H H') (h : H' p = none) : H p = none := by
  cases h1 : H p with
  | none => rfl
  | some o =>
    rw [e p o h1] at h
    cases h
/-- a new shared object -/
theorem Grow.laid {B H : Hp} {p : Addr} {o : HO} (s : Same B H) (h : H p = none) : Grow B H (upd B p o) (upd H p o) where
  up := same_new h
  bup := same_new (free_back s h)
  sub := same_both s
  new := fun a hb hn => by
    have hne : a ≠ p := fun z => hn (by rw [z]; exact h)
    rw [upd_ne hne]
    exact hb
/-- a new object that is dropped -/
theorem Grow.lone {B H : Hp} {p : Addr} {o : HO} (s : Same B H) (h : H p = none) : Grow B H B (upd H p o) where
  up := same_new h
  bup := Same.refl B
  sub := s.trans (same_new h)
  new := fun _ hb _ => hb
theorem Grow.trans {B H B1 H1 B2 H2 : Hp} (a : Grow B H B1 H1) (b : Grow B1 H1 B2 H2) : Grow B H B2 H2 where
  up := a.up.trans b.up
  bup := a.bup.trans b.bup
  sub := b.sub
  new := fun x hb hn => by
    obtain ⟨o, e⟩ := ne_some hn
    exact b.new x (a.new x hb hn) (some_ne (a.up _ _ e))

theorem Split.grow {F B H B' H' : Hp} (e : Split F B H) (g : Grow B H B' H') : Split F B' H' where
  bas := g.sub
  frm := fun a o h => g.up _ _ (e.frm a o h)
  dis := fun a o h => g.new a (e.dis a o h) (some_ne (e.frm a o h))
theorem Evn.grow {F B H B' H' : Hp} {σ : L2.St} {ρ : Rho} (e : Evn F B H σ ρ) (g : Grow B H B' H') : Evn F B' H' σ ρ where
  sp := e.sp.grow g
  len := e.len
  per := fun i r h => let ⟨v, h1, h2⟩ := e.per i r h; ⟨v, h1, r.mono g.bup h2⟩
  own := fun i c h => by
    obtain ⟨a, h1, h2, h3, h4⟩ := e.own i c h
    obtain ⟨o, ho⟩ := ne_some (c.there h4)
    refine ⟨a, h1, g.new a h2 (c.there h4), h3, c.mono g.bup ?_ h4⟩
    rw [ho]
    exact g.up _ _ ho
  sep := e.sep

/-- what is not shared -/
def rest (B H : Hp) : Hp := fun a => match B a with
  | none => H a
  | some _ => none
theorem rest_some {B H : Hp} {a : Addr} {o : HO} (h : rest B H a = some o) : B a = none ∧ H a = some o := by
  unfold rest at h
  cases e : B a with
  | none => rw [e] at h; exact ⟨rfl, h⟩
  | some u => rw [e] at h; cases h
theorem rest_of {B H : Hp} {a : Addr} {o : HO} (h1 : B a = none) (h : H a = some o) : rest B H a = some o := by
  unfold rest
  rw [h1]
  exact h
theorem Split.rest {F B H : Hp} (e : Split F B H) : Split (Fc.rest B H) B H where
  bas := e.bas
  frm := fun a o h => (rest_some h).2
  dis := fun a o h => (rest_some h).1
/-- behind a call that kept all that it did not share -/
theorem Split.back {F B H B' H' : Hp} (e : Split F B H) (s : Split (Fc.rest B H) B' H') : Split F B' H' where
  bas := s.bas
  frm := fun a o h => s.frm a o (rest_of (e.dis a o h) (e.frm a o h))
  dis := fun a o h => s.dis a o (rest_of (e.dis a o h) (e.frm a o h))
theorem Evn.back {F B H B' H' : Hp} {σ : L2.St} {ρ : Rho} (e : Evn F B H σ ρ) (sb : Same B B') (s : Split (rest B H) B' H') : Evn F B' H' σ ρ where
  sp := e.sp.back s
  len := e.len
  per := fun i r h => let ⟨v, h1, h2⟩ := e.per i r h; ⟨v, h1, r.mono sb h2⟩
  own := fun i c h => by
    obtain ⟨a, h1, h2, h3, h4⟩ := e.own i c h
    obtain ⟨o, ho⟩ := ne_some (c.there h4)
    have q := rest_of h2 ho
    refine ⟨a, h1, s.dis a o q, h3, c.mono sb ?_ h4⟩
    rw [ho]
    exact s.frm a o q
  sep := e.sep

/-! ### slots -/
theorem set_get {α : Type} {l : List α} {i j : Nat} {x y : α} (h : (l.set i x)[j]? = some y) : (i = j ∧ y = x ∧ i < l.length) ∨ (i ≠ j ∧ l[j]? = some y) := by
  by_cases e : i = j
  · subst e
    by_cases hl : i < l.length
    · rw [List.getElem?_set_self hl] at h
      cases h
      exact .inl ⟨rfl, rfl, hl⟩
    · rw [List.getElem?_eq_none (by rw [List.length_set]; omega)] at h
      cases h
  · rw [List.getElem?_set_ne e] at h
    exact .inr ⟨e, h⟩
theorem set_self {α : Type} {l : List α} {i : Nat} {x : α} (h : i < l.length) : (l.set i x)[i]? = some x := List.getElem?_set_self h
section
variable {F B H : Hp} {σ : L2.St} {ρ : Rho}
theorem Evn.set {i : Nat} {r : Rp} {v : V} (e : Evn F B H σ ρ) (h : r.p v B) : Evn F B H (σ.set i (some v)) (ρ.set i (.per r)) where
  sp := e.sp
  len := by rw [List.length_set, List.length_set]; exact e.len
  per := fun j r' hj => by
    rcases set_get hj with ⟨rfl, e1, hl⟩ | ⟨hn, hj⟩
    · cases e1
      exact ⟨v, set_self (by rw [← e.len]; exact hl), h⟩
    · rw [List.getElem?_set_ne hn]
      exact e.per j r' hj
  own := fun j c hj => by
    rcases set_get hj with ⟨rfl, e1, hl⟩ | ⟨hn, hj⟩
    · cases e1
    · rw [List.getElem?_set_ne hn]
      exact e.own j c hj
  sep := fun j k c d a hj hk sj sk => by
    rcases set_get hj with ⟨rfl, e1, hl⟩ | ⟨hn, hj⟩
    · cases e1
    · rcases set_get hk with ⟨rfl, e1, hl⟩ | ⟨hn', hk⟩
      · cases e1
      · rw [List.getElem?_set_ne hn] at sj
        rw [List.getElem?_set_ne hn'] at sk
        exact e.sep j k c d a hj hk sj sk
theorem Evn.setNo {i : Nat} {x : Option V} (e : Evn F B H σ ρ) : Evn F B H (σ.set i x) (ρ.set i .no) where
  sp := e.sp
  len := by rw [List.length_set, List.length_set]; exact e.len
  per := fun j r' hj => by
    rcases set_get hj with ⟨rfl, e1, hl⟩ | ⟨hn, hj⟩
    · cases e1
    · rw [List.getElem?_set_ne hn]
      exact e.per j r' hj
  own := fun j c hj => by
    rcases set_get hj with ⟨rfl, e1, hl⟩ | ⟨hn, hj⟩
    · cases e1
    · rw [List.getElem?_set_ne hn]
      exact e.own j c hj
  sep := fun j k c d a hj hk sj sk => by
    rcases set_get hj with ⟨rfl, e1, hl⟩ | ⟨hn, hj⟩
    · cases e1
    · rcases set_get hk with ⟨rfl, e1, hl⟩ | ⟨hn', hk⟩
      · cases e1
      · rw [List.getElem?_set_ne hn] at sj
        rw [List.getElem?_set_ne hn'] at sk
        exact e.sep j k c d a hj hk sj sk
/-- a new object becomes a slot's own -/
theorem Evn.setOwn {i : Nat} {c : Ow} {a : Addr} {o : HO} (e : Evn F B H σ ρ) (hn : H a = none) (h : c.p a B (upd H a o)) : Evn F B (upd H a o) (σ.set i (some (.ref a))) (ρ.set i (.own c)) := by
  have e' := e.grow (Grow.lone (o := o) e.sp.bas hn)
  have hB : B a = none := free_back e.sp.bas hn
  have hF : F a = none := by
    cases q : F a with
    | none => rfl
    | some u => rw [e.sp.frm _ _ q] at hn; cases hn
  have no : ∀ (j : Nat) (d : Ow), ρ[j]? = some (Sl.own d) → σ[j]? ≠ some (some (V.ref a)) := fun j d hj hs => by
    obtain ⟨b, h1, _, _, h4⟩ := e.own j d hj
    rw [hs] at h1
    cases h1
    exact d.there h4 hn
  refine ⟨e'.sp, by rw [List.length_set, List.length_set]; exact e.len, fun j r' hj => ?_, fun j d hj => ?_, fun j k d d' b hj hk sj sk => ?_⟩
  · rcases set_get hj with ⟨rfl, e1, hl⟩ | ⟨hne, hj⟩
    · cases e1
    · rw [List.getElem?_set_ne hne]
      exact e'.per j r' hj
  · rcases set_get hj with ⟨rfl, e1, hl⟩ | ⟨hne, hj⟩
    · cases e1
      exact ⟨a, set_self (by rw [← e.len]; exact hl), hB, hF, h⟩
    · rw [List.getElem?_set_ne hne]
      exact e'.own j d hj
  · rcases set_get hj with ⟨rfl, e1, hl⟩ | ⟨hne, hj⟩
    · rcases set_get hk with ⟨rfl, _, _⟩ | ⟨hne', hk⟩
      · rfl
      · rw [set_self (by rw [← e.len]; exact hl)] at sj
        cases sj
        rw [List.getElem?_set_ne hne'] at sk
        exact absurd sk (no k _ hk)
    · rw [List.getElem?_set_ne hne] at sj
      rcases set_get hk with ⟨rfl, e1, hl⟩ | ⟨hne', hk⟩
      · rw [set_self (by rw [← e.len]; exact hl)] at sk
        cases sk
        exact absurd sj (no j _ hj)
      · rw [List.getElem?_set_ne hne'] at sk
        exact e.sep j k _ _ b hj hk sj sk
/-- what a slot owns is written -/
theorem Evn.mut {i : Nat} {c d : Ow} {a : Addr} {o : HO} (e : Evn F B H σ ρ) (hi : ρ[i]? = some (.own c)) (ha : σ[i]? = some (some (.ref a))) (h : d.p a B (upd H a o)) : Evn F B (upd H a o) σ (ρ.set i (.own d)) := by
  obtain ⟨a', h1, hB, hF, hc⟩ := e.own i c hi
  rw [ha] at h1
  cases h1
  refine ⟨⟨same_mut e.sp.bas hB, fun b u hb => ?_, e.sp.dis⟩, by rw [List.length_set]; exact e.len, fun j r' hj => ?_, fun j d' hj => ?_, fun j k d1 d2 b hj hk sj sk => ?_⟩
  · rw [upd_ne (fun z => by rw [z, hF] at hb; cases hb)]
    exact e.sp.frm b u hb
  · rcases set_get hj with ⟨rfl, e1, hl⟩ | ⟨hne, hj⟩
    · cases e1
    · exact e.per j r' hj
  · rcases set_get hj with ⟨rfl, e1, hl⟩ | ⟨hne, hj⟩
    · cases e1
      exact ⟨a, ha, hB, hF, h⟩
    · obtain ⟨b, g1, g2, g3, g4⟩ := e.own j d' hj
      have hba : b ≠ a := fun z => hne (by subst z; exact e.sep _ _ _ _ _ hi hj ha g1)
      exact ⟨b, g1, g2, g3, d'.mono (Same.refl B) (upd_ne hba) g4⟩
  · rcases set_get hj with ⟨rfl, e1, hl⟩ | ⟨hne, hj⟩
    · rcases set_get hk with ⟨rfl, _, _⟩ | ⟨hne', hk⟩
      · rfl
      · exact e.sep _ _ _ _ b hi hk sj sk
    · rcases set_get hk with ⟨rfl, e1, hl⟩ | ⟨hne', hk⟩
      · exact e.sep _ _ _ _ b hj hi sj sk
      · exact e.sep j k _ _ b hj hk sj sk
/-- what a slot owns becomes shared -/
theorem Evn.freeze {i : Nat} {c : Ow} {a : Addr} {o : HO} {r : Rp} (e : Evn F B H σ ρ) (hi : ρ[i]? = some (.own c)) (ha : σ[i]? = some (some (.ref a))) (ho : H a = some o) (h : r.p (.ref a) (upd B a o)) : Same B (upd B a o) ∧ Evn F (upd B a o) H σ (ρ.set i (.per r)) := by
  obtain ⟨a', h1, hB, hF, hc⟩ := e.own i c hi
  rw [ha] at h1
  cases h1
  have sB : Same B (upd B a o) := same_new hB
  refine ⟨sB, ⟨same_at e.sp.bas ho, e.sp.frm, fun b u hb => ?_⟩, by rw [List.length_set]; exact e.len, fun j r' hj => ?_, fun j d' hj => ?_, fun j k d1 d2 b hj hk sj sk => ?_⟩
  · rw [upd_ne (fun z => by rw [z, hF] at hb; cases hb)]
    exact e.sp.dis b u hb
  · rcases set_get hj with ⟨rfl, e1, hl⟩ | ⟨hne, hj⟩
    · cases e1
      exact ⟨_, ha, h⟩
    · obtain ⟨v, g1, g2⟩ := e.per j r' hj
      exact ⟨v, g1, r'.mono sB g2⟩
  · rcases set_get hj with ⟨rfl, e1, hl⟩ | ⟨hne, hj⟩
    · cases e1
    · obtain ⟨b, g1, g2, g3, g4⟩ := e.own j d' hj
      have hba : b ≠ a := fun z => hne (by subst z; exact e.sep _ _ _ _ _ hi hj ha g1)
      exact ⟨b, g1, by rw [upd_ne hba]; exact g2, g3, d'.mono sB rfl g4⟩
  · rcases set_get hj with ⟨rfl, e1, hl⟩ | ⟨hne, hj⟩
    · cases e1
    · rcases set_get hk with ⟨rfl, e1, hl⟩ | ⟨hne', hk⟩
      · cases e1
      · exact e.sep j k _ _ b hj hk sj sk
/-- an own thing goes from slot j to slot i -/
theorem Evn.move {i j : Nat} {c : Ow} {a : Addr} (e : Evn F B H σ ρ) (hij : i ≠ j) (hj : ρ[j]? = some (.own c)) (ha : σ[j]? = some (some (.ref a))) : Evn F B H (σ.set i (some (.ref a))) ((ρ.set j .no).set i (.own c)) := by
  obtain ⟨a', h1, hB, hF, hc⟩ := e.own j c hj
  rw [ha] at h1
  cases h1
  have key : ∀ (k : Nat) d, ((ρ.set j .no).set i (.own c))[k]? = some (.own d) → (k = i ∧ d = c ∧ i < ρ.length) ∨ (k ≠ i ∧ k ≠ j ∧ ρ[k]? = some (.own d)) := fun k d hk => by
    rcases set_get hk with ⟨rfl, e1, hl⟩ | ⟨hne, hk⟩
    · cases e1
      exact .inl ⟨rfl, rfl, by rw [List.length_set] at hl; exact hl⟩
    · rcases set_get hk with ⟨rfl, e1, hl⟩ | ⟨hne', hk⟩
      · cases e1
      · exact .inr ⟨hne.symm, hne'.symm, hk⟩
  refine ⟨e.sp, by rw [List.length_set, List.length_set, List.length_set]; exact e.len, fun k r hk => ?_, fun k d hk => ?_, fun k l d1 d2 b hk hl sk sl => ?_⟩
  · rcases set_get hk with ⟨rfl, e1, hl⟩ | ⟨hne, hk⟩
    · cases e1
    · rcases set_get hk with ⟨rfl, e1, hl⟩ | ⟨hne', hk⟩
      · cases e1
      · rw [List.getElem?_set_ne hne]
        exact e.per k r hk
  · rcases key k d hk with ⟨rfl, rfl, hl⟩ | ⟨h1, h2, h3⟩
    · exact ⟨a, set_self (by rw [← e.len]; exact hl), hB, hF, hc⟩
    · rw [List.getElem?_set_ne (Ne.symm h1)]
      exact e.own k d h3
  · rcases key k d1 hk with ⟨rfl, rfl, hl1⟩ | ⟨h1, h2, h3⟩
    · rcases key l d2 hl with ⟨rfl, rfl, _⟩ | ⟨g1, g2, g3⟩
      · rfl
      · rw [set_self (by rw [← e.len]; exact hl1)] at sk
        cases sk
        rw [List.getElem?_set_ne (Ne.symm g1)] at sl
        exact absurd (e.sep _ _ _ _ _ g3 hj sl ha) g2
    · rw [List.getElem?_set_ne (Ne.symm h1)] at sk
      rcases key l d2 hl with ⟨rfl, rfl, hl1⟩ | ⟨g1, g2, g3⟩
      · rw [set_self (by rw [← e.len]; exact hl1)] at sl
        cases sl
        exact absurd (e.sep _ _ _ _ _ h3 hj sk ha) h2
      · rw [List.getElem?_set_ne (Ne.symm g1)] at sl
        exact e.sep k l _ _ b h3 g3 sk sl
/-- less is known -/
def Sub (ρ ρ' : Rho) : Prop := ρ'.length = ρ.length ∧ ∀ (i : Nat) s, ρ'[i]? = some s → s = .no ∨ ρ[i]? = some s
theorem Sub.refl (ρ : Rho) : Sub ρ ρ := ⟨rfl, fun _ _ h => .inr h⟩
theorem Sub.trans {a b c : Rho} (h : Sub a b) (k : Sub b c) : Sub a c := ⟨k.1.trans h.1, fun i s e => by
  rcases k.2 i s e with q | q
  · exact .inl q
  · exact h.2 i s q⟩
theorem Sub.nil : Sub [] [] := Sub.refl _
theorem Sub.cons {s : Sl} {a b : Rho} (h : Sub a b) : Sub (s :: a) (s :: b) := ⟨by rw [List.length_cons, List.length_cons, h.1], fun i x e => by
  cases i with
  | zero => exact .inr e
  | succ i => exact h.2 i x e⟩
theorem Sub.drop {s : Sl} {a b : Rho} (h : Sub a b) : Sub (s :: a) (.no :: b) := ⟨by rw [List.length_cons, List.length_cons, h.1], fun i x e => by
  cases i with
  | zero => cases e; exact .inl rfl
  | succ i => exact h.2 i x e⟩
theorem Sub.setNo (ρ : Rho) (i : Nat) : Sub ρ (ρ.set i .no) := ⟨List.length_set .., fun j s h => by
  rcases set_get h with ⟨_, e, _⟩ | ⟨_, h⟩
  · exact .inl e
  · exact .inr h⟩
theorem Evn.less {ρ' : Rho} (e : Evn F B H σ ρ) (s : Sub ρ ρ') : Evn F B H σ ρ' where
  sp := e.sp
  len := s.1.trans e.len
  per := fun i r h => (s.2 i _ h).elim (fun z => nomatch z) (e.per i r)
  own := fun i c h => (s.2 i _ h).elim (fun z => nomatch z) (e.own i c)
  sep := fun i j c d a hi hj => (s.2 i _ hi).elim (fun z => nomatch z) fun hi => (s.2 j _ hj).elim (fun z => nomatch z) fun hj => e.sep i j c d a hi hj
end
end Fc
/-! FcB: the readings by what is read (tE, tT, tAs, tN, tS), their rules. -/
namespace Fc
open PySem PySem.Spec PyProof.Rows L2

/-! ### data -/
section
variable {K : PySem.W.Frag}
theorem same_l {H H' : Hp} {a : Addr} {xs : List V} (e : Same H H') (h : SqL K H a xs) : SqL K H' a xs := e.seq h
theorem same_t {H H' : Hp} {a : Addr} {xs : List V} (e : Same H H') (h : SqT K H a xs) : SqT K H' a xs := by
  rcases h with (h | ⟨o, h⟩) | h
  · exact .inl (.inl (e _ _ h))
  · exact .inl (.inr ⟨o, e _ _ h⟩)
  · exact .inr h
mutual
theorem dp_mono {H H' : Hp} (e : Same H H') : ∀ (d : PyData) (v : V), Dp K H v d → Dp K H' v d
  | .none, _, h => by cases h; exact .non
  | .bool b, _, h => by cases h; exact .bl b
  | .int i, _, h => by cases h; exact .int i
  | .str x, _, h => by cases h; exact .str x
  | .list ds, _, h => by
    cases h with
    | lst h1 h2 => exact .lst (same_l e h1) (dps_mono e ds _ h2)
  | .tuple ds, _, h => by
    cases h with
    | tup h1 h2 => exact .tup (same_t e h1) (dps_mono e ds _ h2)
  | .dict _, _, h => by cases h
theorem dps_mono {H H' : Hp} (e : Same H H') : ∀ (ds : List PyData) (vs : List V), DpAll K H vs ds → DpAll K H' vs ds
  | [], _, h => by cases h; exact .nil
  | d :: ds, _, h => by
    cases h with
    | cons h1 h2 => exact .cons (dp_mono e d _ h1) (dps_mono e ds _ h2)
end
theorem dps_len {H : Hp} : ∀ {vs : List V} {ds : List PyData}, DpAll K H vs ds → vs.length = ds.length
  | _, _, .nil => rfl
  | _, _, .cons _ t => by rw [List.length_cons, List.length_cons, dps_len t]
theorem dps_get {H : Hp} : ∀ {vs : List V} {ds : List PyData} {i : Nat} {d : PyData}, DpAll K H vs ds → ds[i]? = some d → ∃ v, vs[i]? = some v ∧ Dp K H v d
  | _, _, _, _, .nil, e => by simp at e
  | _, _, 0, _, .cons r _, e => by simp at e; subst e; exact ⟨_, rfl, r⟩
  | _, _, i + 1, d, .cons _ t, e => by
    obtain ⟨u, h1, h2⟩ := dps_get (i := i) (d := d) t (by simpa using e)
    exact ⟨u, by simpa using h1, h2⟩
theorem dps_getv {H : Hp} : ∀ {vs : List V} {ds : List PyData} {i : Nat} {v : V}, DpAll K H vs ds → vs[i]? = some v → ∃ d, ds[i]? = some d ∧ Dp K H v d
  | _, _, _, _, .nil, e => by simp at e
  | _, _, 0, _, .cons r _, e => by simp at e; subst e; exact ⟨_, rfl, r⟩
  | _, _, i + 1, d, .cons _ t, e => by
    obtain ⟨u, h1, h2⟩ := dps_getv (i := i) (v := d) t (by simpa using e)
    exact ⟨u, by simpa using h1, h2⟩
theorem dps_app {H : Hp} : ∀ {vs ws : List V} {ds es : List PyData}, DpAll K H vs ds → DpAll K H ws es → DpAll K H (vs ++ ws) (ds ++ es)
  | _, _, _, _, .nil, s => s
  | _, _, _, _, .cons r t, s => .cons r (dps_app t s)
theorem dps_one {H : Hp} {v : V} {d : PyData} (h : Dp K H v d) : DpAll K H [v] [d] := .cons h .nil
theorem dps_drop {H : Hp} : ∀ {vs : List V} {ds : List PyData} (n : Nat), DpAll K H vs ds → DpAll K H (vs.drop n) (ds.drop n)
  | _, _, 0, r => r
  | _, _, _ + 1, .nil => .nil
  | _, _, n + 1, .cons _ t => dps_drop n t
theorem dps_take {H : Hp} : ∀ {vs : List V} {ds : List PyData} (n : Nat), DpAll K H vs ds → DpAll K H (vs.take n) (ds.take n)
  | _, _, 0, _ => .nil
  | _, _, _ + 1, .nil => .nil
  | _, _, n + 1, .cons r t => .cons r (dps_take n t)
theorem dps_dropLast {H : Hp} {vs : List V} {ds : List PyData} (h : DpAll K H vs ds) : DpAll K H vs.dropLast ds.dropLast := by
  rw [List.dropLast_eq_take, List.dropLast_eq_take, dps_len h]
  exact dps_take _ h
/-- a datum -/
def dat (K : PySem.W.Frag) (d : PyData) : Rp := ⟨fun v H => Dp K H v d, fun e h => dp_mono e d _ h⟩
/-- a list that is owned -/
def lstO (K : PySem.W.Frag) (ds : List PyData) : Ow where
  p := fun a B H => ∃ vs, H a = some (.lst vs) ∧ DpAll K B vs ds
  there := fun ⟨_, h, _⟩ => some_ne h
  mono := fun s e ⟨vs, h, r⟩ => ⟨vs, by rw [e]; exact h, dps_mono s ds vs r⟩
end

/-! ### lists of readings -/
inductive Reps : List Rp → List V → Hp → Prop
  | nil {B : Hp} : Reps [] [] B
  | cons {r : Rp} {v : V} {rs : List Rp} {vs : List V} {B : Hp} : r.p v B → Reps rs vs B → Reps (r :: rs) (v :: vs) B
theorem Reps.mono {B B' : Hp} (s : Same B B') : ∀ {rs : List Rp} {vs : List V}, Reps rs vs B → Reps rs vs B'
  | _, _, .nil => .nil
  | r :: _, _, .cons h t => .cons (r.mono s h) (t.mono s)
theorem Reps.length {B : Hp} : ∀ {rs : List Rp} {vs : List V}, Reps rs vs B → vs.length = rs.length
  | _, _, .nil => rfl
  | _, _, .cons _ t => by rw [List.length_cons, List.length_cons, t.length]
theorem Reps.dps {K : PySem.W.Frag} {B : Hp} : ∀ {ds : List PyData} {vs : List V}, Reps (ds.map (dat K)) vs B → DpAll K B vs ds
  | [], _, h => by
    rw [List.map_nil] at h
    cases h
    exact .nil
  | d :: ds, _, h => by
    rw [List.map_cons] at h
    cases h with
    | cons h1 h2 => exact .cons h1 (Reps.dps h2)

/-! ### the readings -/
def tE (ρ ρ' : Rho) (r : Rp) : TE := fun σ H Q => ∃ F B, Evn F B H σ ρ ∧ ∀ v H' B', Same B B' → Evn F B' H' σ ρ' → r.p v B' → Q v H'
def tT (ρ ρ' : Rho) (b : Bool) : TT := fun σ H Q => ∃ F B, Evn F B H σ ρ ∧ ∀ H' B', Same B B' → Evn F B' H' σ ρ' → Q b H'
def tAs (ρ ρ' : Rho) (rs : List Rp) : TA := fun σ H Q => ∃ F B, Evn F B H σ ρ ∧ ∀ vs H' B', Same B B' → Evn F B' H' σ ρ' → Reps rs vs B' → Q vs H'
/-- a new thing that nobody holds -/
structure Fresh (F B H : Hp) (σ : L2.St) (ρ : Rho) (a : Addr) (c : Ow) : Prop where
  nb : B a = none
  nf : F a = none
  no : ∀ (j : Nat) (d : Ow), ρ[j]? = some (Sl.own d) → σ[j]? ≠ some (some (V.ref a))
  at_ : c.p a B H
def tN (ρ ρ' : Rho) (c : Ow) : TE := fun σ H Q => ∃ F B, Evn F B H σ ρ ∧ ∀ a H' B', Same B B' → Evn F B' H' σ ρ' → Fresh F B' H' σ ρ' a c → Q (.ref a) H'
inductive Out where
  | nx (ρ : Rho)
  | rt (r : Rp) (ρ : Rho)
def tS (ρ : Rho) (o : Out) : TS := fun D σ H => ∃ F B, Evn F B H σ ρ ∧ match o with
  | .nx ρ' => ∀ σ' H' B', Same B B' → Evn F B' H' σ' ρ' → D.nx σ' H'
  | .rt r ρ' => ∀ v σ' H' B', Same B B' → Evn F B' H' σ' ρ' → r.p v B' → D.rt v H'

theorem Evn.noF {F B H : Hp} {σ : L2.St} {ρ : Rho} (e : Evn F B H σ ρ) {a : Addr} (hn : H a = none) : F a = none := by
  cases q : F a with
  | none => rfl
  | some u => rw [e.sp.frm _ _ q] at hn; cases hn
theorem Evn.noO {F B H : Hp} {σ : L2.St} {ρ : Rho} (e : Evn F B H σ ρ) {a : Addr} (hn : H a = none) : ∀ (j : Nat) (d : Ow), ρ[j]? = some (Sl.own d) → σ[j]? ≠ some (some (V.ref a)) := fun j d hj hs => by
  obtain ⟨b, h1, _, _, h4⟩ := e.own j d hj
  rw [hs] at h1
  cases h1
  exact d.there h4 hn
/-- a new object, not yet shared -/
theorem Evn.fresh {F B H : Hp} {σ : L2.St} {ρ : Rho} (e : Evn F B H σ ρ) {a : Addr} {o : HO} {c : Ow} (hn : H a = none) (h : c.p a B (upd H a o)) : Evn F B (upd H a o) σ ρ ∧ Fresh F B (upd H a o) σ ρ a c :=
  ⟨e.grow (Grow.lone e.sp.bas hn), free_back e.sp.bas hn, e.noF hn, e.noO hn, h⟩
theorem Evn.hold {F B H : Hp} {σ : L2.St} {ρ : Rho} {i : Nat} {a : Addr} {c : Ow} (e : Evn F B H σ ρ) (f : Fresh F B H σ ρ a c) : Evn F B H (σ.set i (some (.ref a))) (ρ.set i (.own c)) := by
  refine ⟨e.sp, by rw [List.length_set, List.length_set]; exact e.len, fun j r' hj => ?_, fun j d hj => ?_, fun j k d d' b hj hk sj sk => ?_⟩
  · rcases set_get hj with ⟨rfl, e1, hl⟩ | ⟨hne, hj⟩
    · cases e1
    · rw [List.getElem?_set_ne hne]
      exact e.per j r' hj
  · rcases set_get hj with ⟨rfl, e1, hl⟩ | ⟨hne, hj⟩
    · cases e1
      exact ⟨a, set_self (by rw [← e.len]; exact hl), f.nb, f.nf, f.at_⟩
    · rw [List.getElem?_set_ne hne]
      exact e.own j d hj
  · rcases set_get hj with ⟨rfl, e1, hl⟩ | ⟨hne, hj⟩
    · rcases set_get hk with ⟨rfl, _, _⟩ | ⟨hne', hk⟩
      · rfl
      · rw [set_self (by rw [← e.len]; exact hl)] at sj
        cases sj
        rw [List.getElem?_set_ne hne'] at sk
        exact absurd sk (f.no k _ hk)
    · rw [List.getElem?_set_ne hne] at sj
      rcases set_get hk with ⟨rfl, e1, hl⟩ | ⟨hne', hk⟩
      · rw [set_self (by rw [← e.len]; exact hl)] at sk
        cases sk
        exact absurd sj (f.no j _ hj)
      · rw [List.getElem?_set_ne hne'] at sk
        exact e.sep j k _ _ b hj hk sj sk
/-- what may be shared: the own thing c as r -/
def Shares (c : Ow) (r : Rp) : Prop := ∀ a B H, B a = none → c.p a B H → ∃ o, H a = some o ∧ r.p (.ref a) (upd B a o)
theorem Evn.share {F B H : Hp} {σ : L2.St} {ρ : Rho} {a : Addr} {c : Ow} {r : Rp} (e : Evn F B H σ ρ) (f : Fresh F B H σ ρ a c) (sh : Shares c r) : ∃ o, Same B (upd B a o) ∧ Evn F (upd B a o) H σ ρ ∧ r.p (.ref a) (upd B a o) := by
  obtain ⟨o, ho, hr⟩ := sh a B H f.nb f.at_
  have sB : Same B (upd B a o) := same_new f.nb
  refine ⟨o, sB, ⟨⟨same_at e.sp.bas ho, e.sp.frm, fun b u hb => ?_⟩, e.len, fun j r' hj => ?_, fun j d' hj => ?_, e.sep⟩, hr⟩
  · rw [upd_ne (fun z => by rw [z, f.nf] at hb; cases hb)]
    exact e.sp.dis b u hb
  · obtain ⟨v, g1, g2⟩ := e.per j r' hj
    exact ⟨v, g1, r'.mono sB g2⟩
  · obtain ⟨b, g1, g2, g3, g4⟩ := e.own j d' hj
    have hba : b ≠ a := fun z => f.no j d' hj (by rw [← z]; exact g1)
    exact ⟨b, g1, by rw [upd_ne hba]; exact g2, g3, d'.mono sB rfl g4⟩

/-! ### weaker readings -/
section
variable {X : Cx} {e : Expr} {st : Stmt} {sts : List Stmt}
theorem PE.weak {t t' : TE} (h : PE X e t) (k : ∀ σ H Q, t' σ H Q → t σ H Q) : PE X e t' := ⟨fun pins s σ H Q I q => h.run pins s σ H Q I (k σ H Q q)⟩
theorem PT.weak {t t' : TT} (h : PT X e t) (k : ∀ σ H Q, t' σ H Q → t σ H Q) : PT X e t' := ⟨fun pins s σ H Q I q => h.run pins s σ H Q I (k σ H Q q)⟩
theorem PW.weak {t t' : TT} (h : PW X e t) (k : ∀ σ H Q, t' σ H Q → t σ H Q) : PW X e t' := ⟨fun w pins s σ H Q I q => h.run w pins s σ H Q I (k σ H Q q)⟩
theorem PA.weak {es : List Expr} {t t' : TA} (h : PA X es t) (k : ∀ σ H Q, t' σ H Q → t σ H Q) : PA X es t' := ⟨fun pos pins s σ H Q I q => h.run pos pins s σ H Q I (k σ H Q q)⟩
theorem PS.weak {t t' : TS} (h : PS X st t) (k : ∀ D σ H, t' D σ H → t D σ H) : PS X st t' := ⟨fun pins s σ H D I q => h.run pins s σ H D I (k D σ H q)⟩
theorem PSs.weak {t t' : TS} (h : PSs X sts t) (k : ∀ D σ H, t' D σ H → t D σ H) : PSs X sts t' := ⟨fun pins s σ H D I q => h.run pins s σ H D I (k D σ H q)⟩
theorem PE.any {ι : Sort _} {t : ι → TE} (h : ∀ i, PE X e (t i)) : PE X e (fun σ H Q => ∃ i, t i σ H Q) := ⟨fun pins s σ H Q I ⟨i, q⟩ => (h i).run pins s σ H Q I q⟩
theorem PT.any {ι : Sort _} {t : ι → TT} (h : ∀ i, PT X e (t i)) : PT X e (fun σ H Q => ∃ i, t i σ H Q) := ⟨fun pins s σ H Q I ⟨i, q⟩ => (h i).run pins s σ H Q I q⟩
theorem PSs.any {ι : Sort _} {t : ι → TS} (h : ∀ i, PSs X sts (t i)) : PSs X sts (fun D σ H => ∃ i, t i D σ H) := ⟨fun pins s σ H D I ⟨i, q⟩ => (h i).run pins s σ H D I q⟩
end

/-! ### expressions -/
/-- an operation on values, by what is read -/
def Opd (r : R2) (ra rb rc : Rp) : Prop := ∀ B H x y (Q : VK), Same B H → ra.p x B → rb.p y B → (∀ v B' H', Grow B H B' H' → rc.p v B' → Q v H') → r x y H Q
def OpdN (r : R2) (ra rb : Rp) (c : Ow) : Prop := ∀ B H x y (Q : VK), Same B H → ra.p x B → rb.p y B → (∀ a o, H a = none → c.p a B (upd H a o) → Q (.ref a) (upd H a o)) → r x y H Q
def Und (r : V → Hp → VK → Prop) (ra rc : Rp) : Prop := ∀ B H x (Q : VK), Same B H → ra.p x B → (∀ v B' H', Grow B H B' H' → rc.p v B' → Q v H') → r x H Q
/-- a call -/
def Cld (r : List V → Hp → VK → Prop) (rs : List Rp) (rc : Rp) : Prop := ∀ B H vs (Q : VK), Same B H → Reps rs vs B → (∀ v B' H', Grow B H B' H' → rc.p v B' → Q v H') → r vs H Q
/-- .. that gives a new thing -/
def CldN (r : List V → Hp → VK → Prop) (rs : List Rp) (c : Ow) : Prop := ∀ B H vs (Q : VK), Same B H → Reps rs vs B → (∀ a o, H a = none → c.p a B (upd H a o) → Q (.ref a) (upd H a o)) → r vs H Q
section
variable {X : Cx} {a b c : Expr} {pos : Pos} {ρ ρ1 ρ2 ρ3 : Rho} {ra rb rc : Rp}
theorem d_var (i : Nat) {x : Str} {r : Rp} (h : ρ[i]? = some (.per r) := by rfl) (hN : X.N[i]? = some x := by rfl) (hv : Vis X.env.scope x := by first | exact Or.inl rfl | exact Or.inr (Or.inl rfl) | exact Or.inr (Or.inr rfl)) (hd : (x == ("__debug__" : Str)) = false := by decide)
    (hcd : (x == ("__classdict__" : Str)) = false := by decide) : PE X (.Name x pos) (tE ρ ρ r) :=
  PE.weak (pe_var hN hv hd hcd) fun σ H Q ⟨F, B, e, q⟩ => by
    obtain ⟨v, h1, h2⟩ := e.per i r h
    exact ⟨v, h1, q v H B (Same.refl B) e h2⟩
theorem d_c {v : V} {r : Rp} (h : PE X a (tC v)) (hr : ∀ B, r.p v B) : PE X a (tE ρ ρ r) := PE.weak h fun σ H Q ⟨F, B, e, q⟩ => q v H B (Same.refl B) e (hr B)
theorem d_int {K : PySem.W.Frag} {i j} : PE X (.Constant (.int i) j pos) (tE ρ ρ (dat K (.int i))) := d_c pe_int fun _ => Dp.int i
theorem d_str {K : PySem.W.Frag} {x j} : PE X (.Constant (.str x) j pos) (tE ρ ρ (dat K (.str x))) := d_c pe_str fun _ => Dp.str x
theorem d_bl {K : PySem.W.Frag} {b j} : PE X (.Constant (.bool b) j pos) (tE ρ ρ (dat K (.bool b))) := d_c pe_bl fun _ => Dp.bl b
theorem d_non {K : PySem.W.Frag} {j} : PE X (.Constant .none j pos) (tE ρ ρ (dat K .none)) := d_c pe_non fun _ => Dp.non
theorem d_glob {x : Str} {v : V} {u : Value} {r : Rp} (hr : ∀ B, r.p v B) (hg : Gl X x) (hm : X.mg x = some u) (rv : RelV v u) (hd : (x == ("__debug__" : Str)) = false := by decide) : PE X (.Name x pos) (tE ρ ρ r) := d_c (pe_glob hg hm rv hd) hr
/-- another reading of the same value -/
theorem d_as {r r' : Rp} (h : PE X a (tE ρ ρ1 r)) (k : ∀ v B, r.p v B → r'.p v B) : PE X a (tE ρ ρ1 r') := PE.weak h fun σ H Q ⟨F, B, e, q⟩ => ⟨F, B, e, fun v H' B' s e' hr => q v H' B' s e' (k v B' hr)⟩
theorem d_eq {K : PySem.W.Frag} {d d' : PyData} (h : PE X a (tE ρ ρ1 (dat K d))) (k : d = d') : PE X a (tE ρ ρ1 (dat K d')) := k ▸ h
/-- less is known behind -/
theorem d_less {r : Rp} (h : PE X a (tE ρ ρ1 r)) (s : Sub ρ1 ρ2) : PE X a (tE ρ ρ2 r) := PE.weak h fun σ H Q ⟨F, B, e, q⟩ => ⟨F, B, e, fun v H' B' sb e' hr => q v H' B' sb (e'.less s) hr⟩
/-- a new thing that is shared -/
theorem d_share {c : Ow} {r : Rp} (h : PE X a (tN ρ ρ1 c)) (sh : Shares c r) : PE X a (tE ρ ρ1 r) := PE.weak h fun σ H Q ⟨F, B, e, q⟩ => ⟨F, B, e, fun ad H' B' s e' f => by
  obtain ⟨o, sB, e2, hr⟩ := e'.share f sh
  exact q _ _ _ (s.trans sB) e2 hr⟩
theorem opd_run {r : R2} {ta tb : TE} (hk : Opd r ra rb rc) {σ : L2.St} {H : Hp} {Q : VK} (h : tE ρ ρ2 rc σ H Q) : tOp r (tE ρ ρ1 ra) (tE ρ1 ρ2 rb) σ H Q := by
  obtain ⟨F, B, e, q⟩ := h
  refine ⟨F, B, e, fun x H1 B1 s1 e1 hx => ⟨F, B1, e1, fun y H2 B2 s2 e2 hy => ?_⟩⟩
  exact hk B2 H2 x y Q e2.sp.bas (ra.mono s2 hx) hy fun v B' H' g hv => q v H' B' ((s1.trans s2).trans g.bup) (e2.grow g) hv
theorem opdN_run {r : R2} {ta tb : TE} {c : Ow} (hk : OpdN r ra rb c) {σ : L2.St} {H : Hp} {Q : VK} (h : tN ρ ρ2 c σ H Q) : tOp r (tE ρ ρ1 ra) (tE ρ1 ρ2 rb) σ H Q := by
  obtain ⟨F, B, e, q⟩ := h
  refine ⟨F, B, e, fun x H1 B1 s1 e1 hx => ⟨F, B1, e1, fun y H2 B2 s2 e2 hy => ?_⟩⟩
  refine hk B2 H2 x y Q e2.sp.bas (ra.mono s2 hx) hy fun a o hn hc => ?_
  obtain ⟨e3, f⟩ := e2.fresh hn hc
  exact q a _ B2 (s1.trans s2) e3 f
theorem d_bin {op : Operator} {r : R2} (ho : OpR X (binaryOp op) r) (hk : Opd r ra rb rc) (ha : PE X a (tE ρ ρ1 ra)) (hb : PE X b (tE ρ1 ρ2 rb)) : PE X (.BinOp a op b pos) (tE ρ ρ2 rc) :=
  PE.weak (pe_op ho ha hb) fun σ H Q h => opd_run (ta := tE ρ ρ1 ra) (tb := tE ρ1 ρ2 rb) hk h
theorem n_bin {op : Operator} {r : R2} {c : Ow} (ho : OpR X (binaryOp op) r) (hk : OpdN r ra rb c) (ha : PE X a (tE ρ ρ1 ra)) (hb : PE X b (tE ρ1 ρ2 rb)) : PE X (.BinOp a op b pos) (tN ρ ρ2 c) :=
  PE.weak (pe_op ho ha hb) fun σ H Q h => opdN_run (ta := tE ρ ρ1 ra) (tb := tE ρ1 ρ2 rb) hk h
theorem d_un {op : UnaryOp} {r : V → Hp → VK → Prop} (ho : UnR X (unaryOp op) r) (hk : Und r ra rc) (ha : PE X a (tE ρ ρ1 ra)) : PE X (.UnaryOp op a pos) (tE ρ ρ1 rc) :=
  PE.weak (pe_un ho ha) fun σ H Q ⟨F, B, e, q⟩ => ⟨F, B, e, fun x H1 B1 s1 e1 hx => hk B1 H1 x Q e1.sp.bas hx fun v B' H' g hv => q v H' B' (s1.trans g.bup) (e1.grow g) hv⟩
theorem d_cmp {op : CmpOp} {r : R2} (ho : OpR X (compareOp op) r) (hk : Opd r ra rb rc) (ha : PE X a (tE ρ ρ1 ra)) (hb : PE X b (tE ρ1 ρ2 rb)) (hm : behindInMarks op b = false := by first | exact nomark _ | rfl) : PE X (.Compare a [op] [b] pos) (tE ρ ρ2 rc) :=
  PE.weak (pe_cmpR ho ha hb hm) fun σ H Q h => opd_run (ta := tE ρ ρ1 ra) (tb := tE ρ1 ρ2 rb) hk h
theorem t_cmp {K : PySem.W.Frag} {k : Bool} {op : CmpOp} {r : R2} (ho : OpR X (compareOp op) r) (hk : Opd r ra rb (dat K (.bool k))) (ha : PE X a (tE ρ ρ1 ra)) (hb : PE X b (tE ρ1 ρ2 rb)) (hm : behindInMarks op b = false := by first | exact nomark _ | rfl) : PT X (.Compare a [op] [b] pos) (tT ρ ρ2 k) :=
  PT.weak (pt_cmpR ho ha hb hm) fun σ H Q ⟨F, B, e, q⟩ => opd_run (ta := tE ρ ρ1 ra) (tb := tE ρ1 ρ2 rb) hk ⟨F, B, e, fun v H' B' s e' hv => by
    cases hv
    exact ⟨k, rfl, q H' B' s e'⟩⟩
/-- a op b op' c -/
theorem chain_run {K : PySem.W.Frag} {k k' : Bool} {r r' : R2} (hk : Opd r ra rb (dat K (.bool k))) (hk' : k = true → Opd r' rb rc (dat K (.bool k'))) {σ : L2.St} {H : Hp} {Q : VK} (hs : ρ2 = ρ3) (h : tE ρ ρ3 (dat K (.bool (k && k'))) σ H Q) :
    tChain r r' (tE ρ ρ1 ra) (tE ρ1 ρ2 rb) (tE ρ2 ρ3 rc) σ H Q := by
  subst hs
  obtain ⟨F, B, e, q⟩ := h
  refine ⟨F, B, e, fun x H1 B1 s1 e1 hx => ⟨F, B1, e1, fun y H2 B2 s2 e2 hy => ?_⟩⟩
  refine hk B2 H2 x y _ e2.sp.bas (ra.mono s2 hx) hy fun v B3 H3 g hv => ?_
  cases hv
  refine ⟨k, rfl, ?_⟩
  cases k with
  | false => exact iteF (q _ H3 B3 ((s1.trans s2).trans g.bup) (e2.grow g) (Dp.bl _))
  | true =>
    refine iteT ⟨F, B3, e2.grow g, fun z H4 B4 s4 e4 hz => ?_⟩
    exact hk' rfl B4 H4 y z Q e4.sp.bas (rb.mono (g.bup.trans s4) hy) hz fun v B' H' g' hv => q v H' B' (((s1.trans s2).trans g.bup).trans (s4.trans g'.bup)) (e4.grow g') hv
theorem d_chain {K : PySem.W.Frag} {k k' : Bool} {op op' : CmpOp} {r r' : R2} (ho : OpR X (compareOp op) r) (ho' : OpR X (compareOp op') r') (hk : Opd r ra rb (dat K (.bool k))) (hk' : k = true → Opd r' rb rc (dat K (.bool k'))) (ha : PE X a (tE ρ ρ1 ra)) (hb : PE X b (tE ρ1 ρ2 rb)) (hc : PE X c (tE ρ2 ρ2 rc))
    (hm : lastMarks [op, op'] [b, c] = false := by with_unfolding_all rfl) : PE X (.Compare a [op, op'] [b, c] pos) (tE ρ ρ2 (dat K (.bool (k && k')))) :=
  PE.weak (pe_chain ho ho' ha hb hc hm) fun σ H Q h => chain_run hk hk' rfl h
theorem t_chain {K : PySem.W.Frag} {k k' : Bool} {op op' : CmpOp} {r r' : R2} (ho : OpR X (compareOp op) r) (ho' : OpR X (compareOp op') r') (hk : Opd r ra rb (dat K (.bool k))) (hk' : k = true → Opd r' rb rc (dat K (.bool k'))) (ha : PE X a (tE ρ ρ1 ra)) (hb : PE X b (tE ρ1 ρ2 rb)) (hc : PE X c (tE ρ2 ρ2 rc))
    (hm : lastMarks [op, op'] [b, c] = false := by with_unfolding_all rfl) : PT X (.Compare a [op, op'] [b, c] pos) (tT ρ ρ2 (k && k')) :=
  PT.weak (pt_chain ho ho' ha hb hc hm) fun σ H Q ⟨F, B, e, q⟩ => chain_run (K := K) hk hk' rfl ⟨F, B, e, fun v H' B' s e' hv => by
    cases hv
    exact ⟨_, rfl, q H' B' s e'⟩⟩
/-! tests -/
theorem t_val {K : PySem.W.Frag} {k : Bool} (h : PE X a (tE ρ ρ1 (dat K (.bool k)))) (he : ∀ whole, isTrue a X.env whole = (do let v ← whole; standAt a.pos; holding [v] (truthy v)) := by intro _; rfl) : PT X a (tT ρ ρ1 k) :=
  PT.weak (pt_val h he) fun σ H Q ⟨F, B, e, q⟩ => ⟨F, B, e, fun v H' B' s e' hv => by
    cases hv
    exact ⟨k, rfl, q H' B' s e'⟩⟩
theorem t_not {k : Bool} (h : PT X a (tT ρ ρ1 k)) : PT X (.UnaryOp .Not a pos) (tT ρ ρ1 (!k)) :=
  PT.weak (pt_not h) fun σ H Q ⟨F, B, e, q⟩ => ⟨F, B, e, fun H' B' s e' => q H' B' s e'⟩
variable {rest : List Expr} {k k' : Bool}
theorem w_one {op} (h : PT X a (tT ρ ρ1 k)) (ho : op = .And ∨ op = .Or) : PW X (.BoolOp op [a] pos) (tT ρ ρ1 k) := by
  rcases ho with rfl | rfl
  · exact pw_and1 h
  · exact pw_or1 h
theorem w_and (ha : PT X a (tT ρ ρ1 k)) (hb : k = true → PW X (.BoolOp .And (b :: rest) pos) (tT ρ1 ρ1 k')) : PW X (.BoolOp .And (a :: b :: rest) pos) (tT ρ ρ1 (k && k')) := by
  cases k with
  | true => exact PW.weak (pw_and ha (hb rfl)) fun σ H Q ⟨F, B, e, q⟩ => ⟨F, B, e, fun H' B' s e' => iteT ⟨F, B', e', fun H2 B2 s2 e2 => q H2 B2 (s.trans s2) e2⟩⟩
  | false =>
    have hn : PW X (.BoolOp .And (b :: rest) pos) (fun _ _ _ => False) := ⟨fun _ _ _ _ _ _ _ h => h.elim⟩
    exact PW.weak (pw_and ha hn) fun σ H Q ⟨F, B, e, q⟩ => ⟨F, B, e, fun H' B' s e' => iteF (q H' B' s e')⟩
theorem w_or (ha : PT X a (tT ρ ρ1 k)) (hb : k = false → PW X (.BoolOp .Or (b :: rest) pos) (tT ρ1 ρ1 k')) : PW X (.BoolOp .Or (a :: b :: rest) pos) (tT ρ ρ1 (k || k')) := by
  cases k with
  | false => exact PW.weak (pw_or ha (hb rfl)) fun σ H Q ⟨F, B, e, q⟩ => ⟨F, B, e, fun H' B' s e' => iteF ⟨F, B', e', fun H2 B2 s2 e2 => q H2 B2 (s.trans s2) e2⟩⟩
  | true =>
    have hn : PW X (.BoolOp .Or (b :: rest) pos) (fun _ _ _ => False) := ⟨fun _ _ _ _ _ _ _ h => h.elim⟩
    exact PW.weak (pw_or ha hn) fun σ H Q ⟨F, B, e, q⟩ => ⟨F, B, e, fun H' B' s e' => iteT (q H' B' s e')⟩
/-- .. as values -/
theorem d_and {K : PySem.W.Frag} (ha : PE X a (tE ρ ρ1 (dat K (.bool k)))) (hb : k = true → PE X (.BoolOp .And (b :: rest) pos) (tE ρ1 ρ1 (dat K (.bool k')))) : PE X (.BoolOp .And (a :: b :: rest) pos) (tE ρ ρ1 (dat K (.bool (k && k')))) := by
  cases k with
  | true => exact PE.weak (pe_and ha (hb rfl)) fun σ H Q ⟨F, B, e, q⟩ => ⟨F, B, e, fun v H' B' s e' hv => by
      cases hv
      exact ⟨true, rfl, iteT ⟨F, B', e', fun v2 H2 B2 s2 e2 hv2 => q v2 H2 B2 (s.trans s2) e2 hv2⟩⟩⟩
  | false =>
    have hn : PE X (.BoolOp .And (b :: rest) pos) (fun _ _ _ => False) := ⟨fun _ _ _ _ _ _ h => h.elim⟩
    exact PE.weak (pe_and ha hn) fun σ H Q ⟨F, B, e, q⟩ => ⟨F, B, e, fun v H' B' s e' hv => by
      cases hv
      exact ⟨false, rfl, iteF (q _ H' B' s e' (Dp.bl _))⟩⟩
theorem d_or {K : PySem.W.Frag} (ha : PE X a (tE ρ ρ1 (dat K (.bool k)))) (hb : k = false → PE X (.BoolOp .Or (b :: rest) pos) (tE ρ1 ρ1 (dat K (.bool k')))) : PE X (.BoolOp .Or (a :: b :: rest) pos) (tE ρ ρ1 (dat K (.bool (k || k')))) := by
  cases k with
  | false => exact PE.weak (pe_or ha (hb rfl)) fun σ H Q ⟨F, B, e, q⟩ => ⟨F, B, e, fun v H' B' s e' hv => by
      cases hv
      exact ⟨false, rfl, iteF ⟨F, B', e', fun v2 H2 B2 s2 e2 hv2 => q v2 H2 B2 (s.trans s2) e2 hv2⟩⟩⟩
  | true =>
    have hn : PE X (.BoolOp .Or (b :: rest) pos) (fun _ _ _ => False) := ⟨fun _ _ _ _ _ _ h => h.elim⟩
    exact PE.weak (pe_or ha hn) fun σ H Q ⟨F, B, e, q⟩ => ⟨F, B, e, fun v H' B' s e' hv => by
      cases hv
      exact ⟨true, rfl, iteT (q _ H' B' s e' (Dp.bl _))⟩⟩
theorem d_one {op} {r : Rp} (h : PE X a (tE ρ ρ1 r)) : PE X (.BoolOp op [a] pos) (tE ρ ρ1 r) := pe_one h
theorem d_not {K : PySem.W.Frag} (h : PE X a (tE ρ ρ1 (dat K (.bool k)))) : PE X (.UnaryOp .Not a pos) (tE ρ ρ1 (dat K (.bool (!k)))) :=
  PE.weak (pe_not h) fun σ H Q ⟨F, B, e, q⟩ => ⟨F, B, e, fun v H' B' s e' hv => by
    cases hv
    exact ⟨k, rfl, q _ H' B' s e' (Dp.bl _)⟩⟩
theorem d_if {r : Rp} (hc : PT X c (tT ρ ρ1 k)) (ha : k = true → PE X a (tE ρ1 ρ2 r)) (hb : k = false → PE X b (tE ρ1 ρ2 r)) : PE X (.IfExp c a b pos) (tE ρ ρ2 r) := by
  have hn : ∀ e, PE X e (fun _ _ _ => False) := fun e => ⟨fun _ _ _ _ _ _ h => h.elim⟩
  cases k with
  | true => exact PE.weak (pe_ifExp hc (ha rfl) (hn _)) fun σ H Q ⟨F, B, e, q⟩ => ⟨F, B, e, fun H' B' s e' => iteT ⟨F, B', e', fun v2 H2 B2 s2 e2 hv2 => q v2 H2 B2 (s.trans s2) e2 hv2⟩⟩
  | false => exact PE.weak (pe_ifExp hc (hn _) (hb rfl)) fun σ H Q ⟨F, B, e, q⟩ => ⟨F, B, e, fun H' B' s e' => iteF ⟨F, B', e', fun v2 H2 B2 s2 e2 hv2 => q v2 H2 B2 (s.trans s2) e2 hv2⟩⟩
/-! arguments, displays -/
theorem a_nil : PA X [] (tAs ρ ρ []) := PA.weak pa_nil fun σ H Q ⟨F, B, e, q⟩ => q [] H B (Same.refl B) e .nil
theorem a_cons {es : List Expr} {rs : List Rp} (ha : PE X a (tE ρ ρ1 ra)) (hr : PA X es (tAs ρ1 ρ2 rs)) (hs : starEach (a :: es) X.env = (false, eval a X.env) :: starEach es X.env := by rfl) : PA X (a :: es) (tAs ρ ρ2 (ra :: rs)) :=
  PA.weak (pa_cons ha hr hs) fun σ H Q ⟨F, B, e, q⟩ => ⟨F, B, e, fun v H1 B1 s1 e1 hv => ⟨F, B1, e1, fun vs H2 B2 s2 e2 hvs => q _ H2 B2 (s1.trans s2) e2 (.cons (ra.mono s2 hv) hvs)⟩⟩
theorem small_sz {n : Nat} (h : n ≤ 1000000) : n ≤ sizeLine := by rw [sizeLine_eq]; omega
theorem d_tup {K : PySem.W.Frag} {es : List Expr} {x1} {ds : List PyData} (ha : PA X es (tAs ρ ρ1 (ds.map (dat K)))) (hz : ds.length ≤ 1000000 := by exact Nat.le_of_ble_eq_true rfl) : PE X (.Tuple es x1 pos) (tE ρ ρ1 (dat K (.tuple ds))) :=
  PE.weak (pe_tup ha) fun σ H Q ⟨F, B, e, q⟩ => ⟨F, B, e, fun vs H1 B1 s1 e1 hv => ⟨by rw [hv.length, List.length_map]; exact small_sz hz, fun p hp => by
    have g := Grow.laid (o := .tup vs) e1.sp.bas hp
    exact q _ _ _ (s1.trans g.bup) (e1.grow g) (Dp.tup (.inl (.inl upd_same)) (dps_mono g.bup ds vs hv.dps))⟩⟩
theorem n_lst {K : PySem.W.Frag} {es : List Expr} {ds : List PyData} (ha : PA X es (tAs ρ ρ1 (ds.map (dat K)))) (hz : ds.length ≤ 1000000 := by exact Nat.le_of_ble_eq_true rfl) : PE X (.List es pos) (tN ρ ρ1 (lstO K ds)) :=
  PE.weak (pe_lst ha) fun σ H Q ⟨F, B, e, q⟩ => ⟨F, B, e, fun vs H1 B1 s1 e1 hv => ⟨by rw [hv.length, List.length_map]; exact small_sz hz, fun p hp => by
    obtain ⟨e2, f⟩ := e1.fresh (c := lstO K ds) (o := .lst vs) hp ⟨vs, upd_same, hv.dps⟩
    exact q p _ B1 s1 e2 f⟩⟩
theorem sh_lst {K : PySem.W.Frag} {ds : List PyData} : Shares (lstO K ds) (dat K (.list ds)) := fun a B H hb ⟨vs, h1, h2⟩ =>
  ⟨.lst vs, h1, Dp.lst (.inl (.inl upd_same)) (dps_mono (same_new hb) ds vs h2)⟩
theorem d_lst {K : PySem.W.Frag} {es : List Expr} {ds : List PyData} (ha : PA X es (tAs ρ ρ1 (ds.map (dat K)))) (hz : ds.length ≤ 1000000 := by exact Nat.le_of_ble_eq_true rfl) : PE X (.List es pos) (tE ρ ρ1 (dat K (.list ds))) := d_share (n_lst ha hz) sh_lst
end
end Fc
/-! FcC: calls, statements, loops. -/
namespace Fc
open PySem PySem.Spec PyProof.Rows L2

/-! ### promises -/
/-- a def that shares its arguments and its answer, and keeps all else -/
def spR (rs : List Rp) (r : Rp) (vs : List V) (H : Hp) (Q : VK) : Prop := ∃ F B, Split F B H ∧ Reps rs vs B ∧ ∀ v H' B', Same B B' → Split F B' H' → r.p v B' → Q v H'
section
variable {X : Cx} {CX : CXT} {k : Nat} {f C : Addr} {fd : FuncData} {ps : List Str} {sp : Sp} {E : XK} {x m : Str} {p pos apos : Pos} {e o a : Expr} {es : List Expr} {ρ ρ1 ρ2 : Rho} {rs : List Rp} {r rg : Rp}
theorem spR_of {F B H : Hp} {σ : L2.St} {ρ : Rho} {vs : List V} {Q : VK} (e : Evn F B H σ ρ) (hv : Reps rs vs B) (q : ∀ v H' B', Same B B' → Evn F B' H' σ ρ → r.p v B' → Q v H') : spR rs r vs H Q :=
  ⟨rest B H, B, e.sp.rest, hv, fun v H' B' s sp hr => q v H' B' s (e.back s sp) hr⟩
theorem d_call (F : FnOk X.prog X.w X.K X.mg X.base CX k f fd ps sp) (hsp : ∀ vs H Q, spR rs r vs H Q → sp vs H Q E) (hr : Room k X.A) (hg : Gl X x) (hm : X.mg x = some (.ref f)) (hk : PySem.W.keepIn X.K (.ref f) = true) (hb : Binds X.K fd ps []) (hx : Passes CX X E) (ha : PA X (e :: es) (tAs ρ ρ1 rs))
    (hdb : (x == ("__debug__" : Str)) = false := by decide) (he : starEach (e :: es) X.env = (false, eval e X.env) :: starEach es X.env := by rfl) (hpl : (backTo pos (starEach es X.env)).any (·.1) = false := by rfl) : PE X (.Call (.Name x p) (e :: es) [] pos) (tE ρ ρ1 r) :=
  PE.weak (pe_call F hr hg hm hk hb (.nil : Vals [] []) hx ha hdb he hpl) fun σ H Q ⟨Fr, B, e, q⟩ => ⟨Fr, B, e, fun vs H1 B1 s1 e1 hv => by
    show sp (vs ++ []) H1 Q E
    rw [List.append_nil]
    exact hsp _ _ _ (spR_of e1 hv fun v H' B' s e' hr => q v H' B' (s1.trans s) e' hr)⟩
/-- what an instance of the class at C is, by its reading -/
def IsIns (C : Addr) (m : Str) (rg : Rp) : Prop := ∀ v B, rg.p v B → ∃ a dx fs, v = .ref a ∧ B a = some (.ins C dx fs) ∧ fs.lookup m = none
theorem d_meth (hi : IsIns C m rg) (ho : PE X o (tE ρ ρ1 rg)) (c : Cls X.K C) (hm : Meth X.K C m f) (F : FnOk X.prog X.w X.K X.mg X.base CX k f fd ps sp) (hsp : ∀ vs H Q, spR (rg :: rs) r vs H Q → sp vs H Q E) (hr : Room k X.A) (hb : Binds X.K fd ps []) (hx : Passes CX X E) (ha : PA X (e :: es) (tAs ρ1 ρ2 rs)) {pl : Sem Bool}
    (hst : starEach (e :: es) X.env = (false, eval e X.env) :: starEach es X.env := by rfl) (hpl : (backTo pos (starEach es X.env)).any (·.1) = false := by rfl)
    (ht : eval (.Call (.Attribute o m apos) (e :: es) [] pos) X.env = (do
      let ov ← eval o X.env
      standAt apos.atName
      let (f, first) ← holding [ov] (getMethod ov m pl)
      callWith pos f first (backTo pos (starEach (e :: es) X.env)) (backToKw pos (keywordEach [] X.env))) := by rfl) : PE X (.Call (.Attribute o m apos) (e :: es) [] pos) (tE ρ ρ2 r) :=
  PE.weak (pe_meth ho c hm F hr hb (.nil : Vals [] []) hx ha hst hpl ht) fun σ H Q ⟨Fr, B, e, q⟩ => ⟨Fr, B, e, fun v H1 B1 s1 e1 hv => by
    obtain ⟨a, dx, fs, rfl, h2, h3⟩ := hi v B1 hv
    refine ⟨a, dx, fs, rfl, e1.sp.bas _ _ h2, h3, Fr, B1, e1, fun vs H2 B2 s2 e2 hvs => ?_⟩
    show sp (V.ref a :: (vs ++ [])) H2 Q E
    rw [List.append_nil]
    exact hsp _ _ _ (spR_of e2 (.cons (rg.mono s2 hv) hvs) fun v H' B' s e' hr => q v H' B' ((s1.trans s2).trans s) e' hr)⟩
/-- a built-in's call -/
theorem d_callB {id : String} {rr : List V → Hp → VK → Prop} (hc : CallR X (.builtin id) rr) (hk : Cld rr rs r) (hg : Gl X x) (hm : X.mg x = none) (hv : bootBuiltins x = some (.builtin id)) (ha : PA X (e :: es) (tAs ρ ρ1 rs)) (hn : x ≠ "__name__" := by decide)
    (hdb : (x == ("__debug__" : Str)) = false := by decide) (he : starEach (e :: es) X.env = (false, eval e X.env) :: starEach es X.env := by rfl) (hpl : (backTo pos (starEach es X.env)).any (·.1) = false := by rfl) : PE X (.Call (.Name x p) (e :: es) [] pos) (tE ρ ρ1 r) :=
  PE.weak (pe_callB hc hg hm hv ha hn hdb he hpl) fun σ H Q ⟨Fr, B, e, q⟩ => ⟨Fr, B, e, fun vs H1 B1 s1 e1 hvs => hk B1 H1 vs Q e1.sp.bas hvs fun v B' H' g hr => q v H' B' (s1.trans g.bup) (e1.grow g) hr⟩
theorem d_callTy {T : String} {rr : List V → Hp → VK → Prop} (hc : CallR X (.type T) rr) (hk : Cld rr rs r) (hg : Gl X x) (hm : X.mg x = none) (hv : bootBuiltins x = some (.type T)) (ha : PA X (e :: es) (tAs ρ ρ1 rs)) (hn : x ≠ "__name__" := by decide)
    (hdb : (x == ("__debug__" : Str)) = false := by decide) (he : starEach (e :: es) X.env = (false, eval e X.env) :: starEach es X.env := by rfl) (hpl : (backTo pos (starEach es X.env)).any (·.1) = false := by rfl) : PE X (.Call (.Name x p) (e :: es) [] pos) (tE ρ ρ1 r) :=
  PE.weak (pe_callTy hc hg hm hv ha hn hdb he hpl) fun σ H Q ⟨Fr, B, e, q⟩ => ⟨Fr, B, e, fun vs H1 B1 s1 e1 hvs => hk B1 H1 vs Q e1.sp.bas hvs fun v B' H' g hr => q v H' B' (s1.trans g.bup) (e1.grow g) hr⟩
theorem n_callB {id : String} {rr : List V → Hp → VK → Prop} {c : Ow} (hc : CallR X (.builtin id) rr) (hk : CldN rr rs c) (hg : Gl X x) (hm : X.mg x = none) (hv : bootBuiltins x = some (.builtin id)) (ha : PA X (e :: es) (tAs ρ ρ1 rs)) (hn : x ≠ "__name__" := by decide)
    (hdb : (x == ("__debug__" : Str)) = false := by decide) (he : starEach (e :: es) X.env = (false, eval e X.env) :: starEach es X.env := by rfl) (hpl : (backTo pos (starEach es X.env)).any (·.1) = false := by rfl) : PE X (.Call (.Name x p) (e :: es) [] pos) (tN ρ ρ1 c) :=
  PE.weak (pe_callB hc hg hm hv ha hn hdb he hpl) fun σ H Q ⟨Fr, B, e, q⟩ => ⟨Fr, B, e, fun vs H1 B1 s1 e1 hvs => hk B1 H1 vs Q e1.sp.bas hvs fun a o hn hc => by
    obtain ⟨e2, f⟩ := e1.fresh hn hc
    exact q a _ B1 s1 e2 f⟩
theorem n_callTy {T : String} {rr : List V → Hp → VK → Prop} {c : Ow} (hc : CallR X (.type T) rr) (hk : CldN rr rs c) (hg : Gl X x) (hm : X.mg x = none) (hv : bootBuiltins x = some (.type T)) (ha : PA X (e :: es) (tAs ρ ρ1 rs)) (hn : x ≠ "__name__" := by decide)
    (hdb : (x == ("__debug__" : Str)) = false := by decide) (he : starEach (e :: es) X.env = (false, eval e X.env) :: starEach es X.env := by rfl) (hpl : (backTo pos (starEach es X.env)).any (·.1) = false := by rfl) : PE X (.Call (.Name x p) (e :: es) [] pos) (tN ρ ρ1 c) :=
  PE.weak (pe_callTy hc hg hm hv ha hn hdb he hpl) fun σ H Q ⟨Fr, B, e, q⟩ => ⟨Fr, B, e, fun vs H1 B1 s1 e1 hvs => hk B1 H1 vs Q e1.sp.bas hvs fun a o hn hc => by
    obtain ⟨e2, f⟩ := e1.fresh hn hc
    exact q a _ B1 s1 e2 f⟩
/-- a subscript -/
theorem d_ix {rr : R2} {ra rb : Rp} {b : Expr} (hr : IxR X rr) (hk : Opd rr ra rb r) (ha : PE X a (tE ρ ρ1 ra)) (hb : PE X b (tE ρ1 ρ2 rb)) (hs : PlainIx b := by intro _ _; rfl) : PE X (.Subscript a b pos) (tE ρ ρ2 r) :=
  PE.weak (pe_ix hr ha hb hs) fun σ H Q h => opd_run (ta := tE ρ ρ1 ra) (tb := tE ρ1 ρ2 rb) hk h
/-- a field of an instance -/
def FldOf (K : PySem.W.Frag) (C : Addr) (f : Str) (rg r : Rp) : Prop := ∀ v B, rg.p v B → ∃ a dx fs u, v = .ref a ∧ B a = some (.ins C dx fs) ∧ fs.lookup f = some u ∧ r.p u B
theorem d_fld {fl : Str} (hf : FldOf X.K C fl rg r) (c : Cls X.K C) (n : NoAttr X.K C fl) (he : PE X o (tE ρ ρ1 rg)) (hb : attributeBase o fl X.env (eval o X.env) = eval o X.env := by rfl) : PE X (.Attribute o fl pos) (tE ρ ρ1 r) :=
  PE.weak (pe_fld he hb) fun σ H Q ⟨Fr, B, e, q⟩ => ⟨Fr, B, e, fun v H1 B1 s1 e1 hv => by
    obtain ⟨a, dx, fs, u, rfl, h2, h3, h4⟩ := hf v B1 hv
    exact ⟨a, C, dx, fs, u, rfl, e1.sp.bas _ _ h2, c, n, h3, q u H1 B1 s1 e1 h4⟩⟩
end

/-! ### statements -/
section
variable {X : Cx} {e c : Expr} {st : Stmt} {rest bd els : List Stmt} {ρ ρ1 ρ2 ρ3 : Rho} {r : Rp} {o : Out} {pos pos' : Pos} {x : Str}
theorem s_set (i : Nat) (he : PE X e (tE ρ ρ1 r)) (hN : X.N.Nodup := by assumption) (hi : X.N[i]? = some x := by rfl) (hx : Loc X.env.scope x := by first | exact Or.inl rfl | exact Or.inr rfl) (hs : swapsWith e (some (.Name x pos')) pos.line X.env = pure false := by rfl)
    (hf : X.fn x = true ∨ X.env.scope.names.lookup x = some .local := by first | exact .inl rfl | exact .inr rfl) : PS X (.Assign [.Name x pos'] e pos) (tS ρ (.nx (ρ1.set i (.per r)))) :=
  PS.weak (ps_set hN hi hx he hs hf) fun D σ H ⟨F, B, e, q⟩ => ⟨F, B, e, fun v H1 B1 s1 e1 hv => q _ H1 B1 s1 (e1.set hv)⟩
theorem s_new (i : Nat) {c : Ow} (he : PE X e (tN ρ ρ1 c)) (hN : X.N.Nodup := by assumption) (hi : X.N[i]? = some x := by rfl) (hx : Loc X.env.scope x := by first | exact Or.inl rfl | exact Or.inr rfl) (hs : swapsWith e (some (.Name x pos')) pos.line X.env = pure false := by rfl)
    (hf : X.fn x = true ∨ X.env.scope.names.lookup x = some .local := by first | exact .inl rfl | exact .inr rfl) : PS X (.Assign [.Name x pos'] e pos) (tS ρ (.nx (ρ1.set i (.own c)))) :=
  PS.weak (ps_set hN hi hx he hs hf) fun D σ H ⟨F, B, e, q⟩ => ⟨F, B, e, fun a H1 B1 s1 e1 f => q _ H1 B1 s1 (e1.hold f)⟩
theorem s_ret (he : PE X e (tE ρ ρ1 r)) : PS X (.Return (some e) pos) (tS ρ (.rt r ρ1)) :=
  PS.weak (ps_ret he) fun D σ H ⟨F, B, e, q⟩ => ⟨F, B, e, fun v H1 B1 s1 e1 hv => q v σ H1 B1 s1 e1 hv⟩
theorem s_expr (he : PE X e (tE ρ ρ1 r)) (hs : swapsWith e none pos.line X.env = pure false := by rfl) : PS X (.Expr e pos) (tS ρ (.nx ρ1)) :=
  PS.weak (ps_expr he hs) fun D σ H ⟨F, B, e, q⟩ => ⟨F, B, e, fun v H1 B1 s1 e1 hv => q σ H1 B1 s1 e1⟩
theorem b_nil : PSs X [] (tS ρ (.nx ρ)) := PSs.weak pss_nil fun D σ H ⟨F, B, e, q⟩ => q σ H B (Same.refl B) e
theorem b_cons (h1 : PS X st (tS ρ (.nx ρ1))) (h2 : PSs X rest (tS ρ1 o)) : PSs X (st :: rest) (tS ρ o) :=
  PSs.weak (pss_cons h1 h2) fun D σ H ⟨F, B, e, q⟩ => ⟨F, B, e, fun σ' H' B' s e' => by
    cases o with
    | nx ρ' => exact ⟨F, B', e', fun σ2 H2 B2 s2 e2 => q σ2 H2 B2 (s.trans s2) e2⟩
    | rt r ρ' => exact ⟨F, B', e', fun v σ2 H2 B2 s2 e2 hv => q v σ2 H2 B2 (s.trans s2) e2 hv⟩⟩
theorem b_ret (h1 : PS X st (tS ρ (.rt r ρ1))) : PSs X (st :: rest) (tS ρ (.rt r ρ1)) :=
  PSs.weak (pss_cons h1 pss_never) fun D σ H ⟨F, B, e, q⟩ => ⟨F, B, e, q⟩
theorem b_one (h1 : PS X st (tS ρ o)) : PSs X [st] (tS ρ o) := pss_one h1
theorem b_less (h : PSs X rest (tS ρ (.nx ρ1))) (s : Sub ρ1 ρ2) : PSs X rest (tS ρ (.nx ρ2)) := PSs.weak h fun D σ H ⟨F, B, e, q⟩ => ⟨F, B, e, fun σ' H' B' sb e' => q σ' H' B' sb (e'.less s)⟩
theorem b_pre (h : PSs X rest (tS ρ1 o)) (s : Sub ρ ρ1) : PSs X rest (tS ρ o) := PSs.weak h fun D σ H ⟨F, B, e, q⟩ => ⟨F, B, e.less s, by
  cases o with
  | nx ρ' => exact q
  | rt r ρ' => exact q⟩
theorem b_rep {r' : Rp} (h : PSs X rest (tS ρ (.rt r ρ1))) (k : ∀ v B, r.p v B → r'.p v B) : PSs X rest (tS ρ (.rt r' ρ1)) := PSs.weak h fun D σ H ⟨F, B, e, q⟩ => ⟨F, B, e, fun v σ' H' B' sb e' hv => q v σ' H' B' sb e' (k v B' hv)⟩
theorem b_retless (h : PSs X rest (tS ρ (.rt r ρ1))) (s : Sub ρ1 ρ2) : PSs X rest (tS ρ (.rt r ρ2)) := PSs.weak h fun D σ H ⟨F, B, e, q⟩ => ⟨F, B, e, fun v σ' H' B' sb e' hv => q v σ' H' B' sb (e'.less s) hv⟩
/-- what a slot owns is shared from here on -/
theorem b_share (i : Nat) {cw : Ow} {r' : Rp} (sh : Shares cw r') (h : PSs X rest (tS (ρ.set i (.per r')) o)) (hi : ρ[i]? = some (.own cw) := by rfl) : PSs X rest (tS ρ o) := PSs.weak h fun D σ H ⟨F, B, e, q⟩ => by
  obtain ⟨a, h1, h2, h3, h4⟩ := e.own i cw hi
  obtain ⟨ob, ho, hr⟩ := sh a B H h2 h4
  obtain ⟨sB, e2⟩ := e.freeze hi h1 ho hr
  refine ⟨F, _, e2, ?_⟩
  cases o with
  | nx ρ' => exact fun σ' H' B' s e' => q σ' H' B' (sB.trans s) e'
  | rt r ρ' => exact fun v σ' H' B' s e' hv => q v σ' H' B' (sB.trans s) e' hv
theorem e_share (i : Nat) {cw : Ow} {r' r'' : Rp} {ρ' : Rho} (sh : Shares cw r') (h : PE X e (tE (ρ.set i (.per r')) ρ' r'')) (hi : ρ[i]? = some (.own cw) := by rfl) : PE X e (tE ρ ρ' r'') := PE.weak h fun σ H Q ⟨F, B, e, q⟩ => by
  obtain ⟨a, h1, h2, h3, h4⟩ := e.own i cw hi
  obtain ⟨ob, ho, hr⟩ := sh a B H h2 h4
  obtain ⟨sB, e2⟩ := e.freeze hi h1 ho hr
  exact ⟨F, _, e2, fun v H' B' s e' hv => q v H' B' (sB.trans s) e' hv⟩
theorem never_b : PSs X bd (fun _ _ _ => False) := ⟨fun _ _ _ _ _ _ h => h.elim⟩
theorem s_if {k : Bool} (hc : PT X c (tT ρ ρ1 k)) (ha : k = true → PSs X bd (tS ρ1 o)) (hb : k = false → PSs X els (tS ρ1 o)) : PS X (.If c bd els pos) (tS ρ o) := by
  cases k with
  | true => exact PS.weak (ps_if hc (ha rfl) never_b) fun D σ H ⟨F, B, e, q⟩ => ⟨F, B, e, fun H' B' s e' => iteT (by
      cases o with
      | nx ρ' => exact ⟨F, B', e', fun σ2 H2 B2 s2 e2 => q σ2 H2 B2 (s.trans s2) e2⟩
      | rt r ρ' => exact ⟨F, B', e', fun v σ2 H2 B2 s2 e2 hv => q v σ2 H2 B2 (s.trans s2) e2 hv⟩)⟩
  | false => exact PS.weak (ps_if hc never_b (hb rfl)) fun D σ H ⟨F, B, e, q⟩ => ⟨F, B, e, fun H' B' s e' => iteF (by
      cases o with
      | nx ρ' => exact ⟨F, B', e', fun σ2 H2 B2 s2 e2 => q σ2 H2 B2 (s.trans s2) e2⟩
      | rt r ρ' => exact ⟨F, B', e', fun v σ2 H2 B2 s2 e2 hv => q v σ2 H2 B2 (s.trans s2) e2 hv⟩)⟩
/-- if c: .. return; rest -/
theorem b_ifr {k : Bool} {ρr : Rho} (hc : PT X c (tT ρ ρ1 k)) (ha : k = true → PSs X bd (tS ρ1 (.rt r ρr))) (hb : k = false → PSs X rest (tS ρ1 (.rt r ρr))) : PSs X (.If c bd [] pos :: rest) (tS ρ (.rt r ρr)) := by
  cases k with
  | true => exact b_ret (s_if (k := true) hc (fun _ => ha rfl) (fun h => nomatch h))
  | false => exact b_cons (s_if (k := false) (o := .nx ρ1) hc (fun h => nomatch h) (fun _ => b_nil)) (hb rfl)
/-- if c: (not taken) -/
theorem b_no (hc : PT X c (tT ρ ρ1 false)) (hb : PSs X rest (tS ρ1 o)) : PSs X (.If c bd [] pos :: rest) (tS ρ o) := b_cons (s_if (k := false) (o := .nx ρ1) hc (fun h => nomatch h) (fun _ => b_nil)) hb
end
end Fc
/-! FcD: what is walked, for, while, comprehensions, a def's body. -/
namespace Fc
open PySem PySem.Spec PyProof.Rows L2

/-! ### what is walked -/
structure Walk (J : It) (B : Hp) (items : List Rp) : Prop where
  go : ∀ (i : Nat) r B1 H1, items[i]? = some r → Same B B1 → Same B1 H1 → J.go i H1 ∧ ∀ x H2, J.yld i H1 x H2 → ∃ B2, Grow B1 H1 B2 H2 ∧ r.p x B2
  stop : ∀ B1 H1, Same B B1 → Same B1 H1 → J.stop items.length H1
theorem Walk.mono {J : It} {B B' : Hp} {items : List Rp} (w : Walk J B items) (s : Same B B') : Walk J B' items :=
  ⟨fun i r B1 H1 h s1 s2 => w.go i r B1 H1 h (s.trans s1) s2, fun B1 H1 s1 s2 => w.stop B1 H1 (s.trans s1) s2⟩
def iD (ρ ρ' : Rho) (items : List Rp) : TI := fun σ H R => ∃ F B, Evn F B H σ ρ ∧ ∀ J H' B', Same B B' → Evn F B' H' σ ρ' → Walk J B' items → R J H'
theorem PI.weak {X : Cx} {tg iter : Expr} {t t' : TI} (h : PI X tg iter t) (k : ∀ σ H R, t' σ H R → t σ H R) : PI X tg iter t' := ⟨fun pins s σ H R I q => h.run pins s σ H R I (k σ H R q)⟩
theorem map_get {K : PySem.W.Frag} {ds : List PyData} {i : Nat} {r : Rp} (h : (ds.map (dat K))[i]? = some r) : ∃ d, ds[i]? = some d ∧ r = dat K d := by
  rw [List.getElem?_map] at h
  cases e : ds[i]? with
  | none => rw [e] at h; cases h
  | some d => rw [e] at h; cases h; exact ⟨d, rfl, rfl⟩
theorem dp_list {K : PySem.W.Frag} {B : Hp} {v : V} {ds : List PyData} (h : Dp K B v (.list ds)) : ∃ a xs, v = .ref a ∧ SqL K B a xs ∧ DpAll K B xs ds := by
  cases h with
  | lst h1 h2 => exact ⟨_, _, rfl, h1, h2⟩
theorem dp_tup {K : PySem.W.Frag} {B : Hp} {v : V} {ds : List PyData} (h : Dp K B v (.tuple ds)) : ∃ a xs, v = .ref a ∧ SqT K B a xs ∧ DpAll K B xs ds := by
  cases h with
  | tup h1 h2 => exact ⟨_, _, rfl, h1, h2⟩
theorem walk_list {K : PySem.W.Frag} {B : Hp} {a : Addr} {xs : List V} {ds : List PyData} (h1 : SqL K B a xs) (h2 : DpAll K B xs ds) : Walk (Itl K a) B (ds.map (dat K)) where
  go := fun i r B1 H1 h s1 s2 => by
    obtain ⟨d, hd, rfl⟩ := map_get h
    obtain ⟨v, hv, hr⟩ := dps_get h2 hd
    have q := same_l (s1.trans s2) h1
    refine ⟨⟨xs, v, q, hv⟩, fun x H2 y => ?_⟩
    obtain ⟨rfl, y⟩ := y
    have := y xs q
    rw [hv] at this
    cases this
    exact ⟨B1, Grow.refl s2, dp_mono s1 d v hr⟩
  stop := fun B1 H1 s1 s2 => ⟨xs, same_l (s1.trans s2) h1, by rw [dps_len h2, List.length_map]; exact Nat.le_refl _⟩
theorem walk_tup {K : PySem.W.Frag} {B : Hp} {a : Addr} {xs : List V} {ds : List PyData} (h1 : SqT K B a xs) (h2 : DpAll K B xs ds) : Walk (Itt K a) B (ds.map (dat K)) where
  go := fun i r B1 H1 h s1 s2 => by
    obtain ⟨d, hd, rfl⟩ := map_get h
    obtain ⟨v, hv, hr⟩ := dps_get h2 hd
    have q := same_t (s1.trans s2) h1
    refine ⟨⟨xs, v, q, hv⟩, fun x H2 y => ?_⟩
    obtain ⟨rfl, y⟩ := y
    have := y xs q
    rw [hv] at this
    cases this
    exact ⟨B1, Grow.refl s2, dp_mono s1 d v hr⟩
  stop := fun B1 H1 s1 s2 => ⟨xs, same_t (s1.trans s2) h1, by rw [dps_len h2, List.length_map]; exact Nat.le_refl _⟩
/-- 0, 1, .. -/
def rangeR (K : PySem.W.Frag) (lo : Int) (n : Nat) : List Rp := (List.range n).map fun (i : Nat) => dat K (.int (lo + (i : Int)))
theorem walk_range {K : PySem.W.Frag} {B : Hp} {lo : Int} {n : Nat} : Walk (Itr lo n) B (rangeR K lo n) where
  go := fun i r B1 H1 h s1 s2 => by
    unfold rangeR at h
    rw [List.getElem?_map] at h
    by_cases hi : i < n
    · rw [List.getElem?_range hi] at h
      cases h
      refine ⟨hi, fun x H2 y => ?_⟩
      obtain ⟨rfl, rfl⟩ := y
      exact ⟨B1, Grow.refl s2, Dp.int _⟩
    · rw [List.getElem?_eq_none (by rw [List.length_range]; omega)] at h
      cases h
  stop := fun B1 H1 s1 s2 => by
    show n ≤ (rangeR K lo n).length
    unfold rangeR
    rw [List.length_map, List.length_range]
    exact Nat.le_refl _
theorem walk_str {K : PySem.W.Frag} {B : Hp} {x : Str} : Walk (Its x) B (x.cps.toList.map fun (c : Nat) => dat K (.str ⟨#[c]⟩)) where
  go := fun i r B1 H1 h s1 s2 => by
    rw [List.getElem?_map, Array.getElem?_toList] at h
    cases e : x.cps[i]? with
    | none => rw [e] at h; cases h
    | some c =>
      rw [e] at h
      cases h
      have hi : i < x.cps.size := (Array.getElem?_eq_some_iff.mp e).1
      refine ⟨hi, fun v H2 y => ?_⟩
      obtain ⟨rfl, c', hc', rfl⟩ := y
      rw [e] at hc'
      cases hc'
      exact ⟨B1, Grow.refl s2, Dp.str _⟩
  stop := fun B1 H1 s1 s2 => by
    show x.cps.size ≤ _
    rw [List.length_map, Array.length_toList]
    exact Nat.le_refl _
section
variable {X : Cx} {tg l a b : Expr} {ρ ρ1 ρ2 : Rho} {p pos : Pos}
theorem i_list {ds : List PyData} (h : PE X l (tE ρ ρ1 (dat X.K (.list ds)))) : PI X tg l (iD ρ ρ1 (ds.map (dat X.K))) :=
  PI.weak (pi_list h) fun σ H R ⟨F, B, e, q⟩ => ⟨F, B, e, fun v H1 B1 s1 e1 hv => by
    obtain ⟨a, xs, rfl, h1, h2⟩ := dp_list hv
    exact ⟨a, rfl, ⟨xs, same_l e1.sp.bas h1⟩, q _ H1 B1 s1 e1 (walk_list h1 h2)⟩⟩
theorem i_tup {ds : List PyData} (h : PE X l (tE ρ ρ1 (dat X.K (.tuple ds)))) : PI X tg l (iD ρ ρ1 (ds.map (dat X.K))) :=
  PI.weak (pi_tup h) fun σ H R ⟨F, B, e, q⟩ => ⟨F, B, e, fun v H1 B1 s1 e1 hv => by
    obtain ⟨a, xs, rfl, h1, h2⟩ := dp_tup hv
    exact ⟨a, rfl, ⟨xs, same_t e1.sp.bas h1⟩, q _ H1 B1 s1 e1 (walk_tup h1 h2)⟩⟩
theorem i_str {x : Str} (h : PE X l (tE ρ ρ1 (dat X.K (.str x)))) : PI X tg l (iD ρ ρ1 (x.cps.toList.map fun (c : Nat) => dat X.K (.str ⟨#[c]⟩))) :=
  PI.weak (pi_str h) fun σ H R ⟨F, B, e, q⟩ => ⟨F, B, e, fun v H1 B1 s1 e1 hv => by
    cases hv
    exact ⟨x, rfl, q _ H1 B1 s1 e1 walk_str⟩⟩
theorem i_range {n : Int} (hm : X.mg "range" = none) (ha : PA X [a] (tAs ρ ρ1 [dat X.K (.int n)])) (hb : -(2 ^ 62) ≤ n ∧ n < 2 ^ 62) (hg : Gl X "range" := by rfl) (hs : starEach [a] X.env = [(false, eval a X.env)] := by rfl) : PI X tg (.Call (.Name "range" p) [a] [] pos) (iD ρ ρ1 (rangeR X.K 0 n.toNat)) :=
  PI.weak (pi_range1 hg hm ha hs) fun σ H R ⟨F, B, e, q⟩ => ⟨F, B, e, fun vs H1 B1 s1 e1 hv => by
    cases hv with
    | cons h1 h2 =>
      cases h2
      cases h1
      exact ⟨n, rfl, hb.1, hb.2, q _ H1 B1 s1 e1 walk_range⟩⟩
theorem i_range2 {m n : Int} (hm : X.mg "range" = none) (ha : PA X [a, b] (tAs ρ ρ2 [dat X.K (.int m), dat X.K (.int n)])) (hz : -(2 ^ 62) ≤ m ∧ m < 2 ^ 62 ∧ -(2 ^ 62) ≤ n ∧ n < 2 ^ 62) (hg : Gl X "range" := by rfl) (hs : starEach [a, b] X.env = [(false, eval a X.env), (false, eval b X.env)] := by rfl) (hs2 : starEach [b] X.env = [(false, eval b X.env)] := by rfl) :
    PI X tg (.Call (.Name "range" p) [a, b] [] pos) (iD ρ ρ2 (rangeR X.K m (n - m).toNat)) :=
  PI.weak (pi_range2 hg hm ha hs hs2) fun σ H R ⟨F, B, e, q⟩ => ⟨F, B, e, fun vs H1 B1 s1 e1 hv => by
    cases hv with
    | cons h1 h2 =>
      cases h2 with
      | cons h2 h3 =>
        cases h3
        cases h1
        cases h2
        exact ⟨m, n, rfl, hz, q _ H1 B1 s1 e1 walk_range⟩⟩
end

/-! ### targets -/
/-- g stores what is read as r: the slots vs may change -/
structure Tg (g : TG) (vs : List Nat) (ρ : Rho) (r : Rp) (ρ' : Rho) : Prop where
  run : ∀ (F B H : Hp) (τ : L2.St) (x : V) (Q : L2.St → Hp → Prop), Evn F B H τ ρ → r.p x B → (∀ τ', Evn F B H τ' ρ' → (∀ i, i ∉ vs → τ'[i]? = τ[i]?) → τ'.length = τ.length → Q τ' H) → g x τ H Q
theorem out_set {τ : L2.St} {vs : List Nat} {j k : Nat} {x : Option V} (h : j ∈ vs) (hk : k ∉ vs) : (τ.set j x)[k]? = τ[k]? := List.getElem?_set_ne fun z => hk (by rw [← z]; exact h)
theorem tg_name {j : Nat} {vs : List Nat} {ρ : Rho} {r : Rp} (h : j ∈ vs) : Tg (gName j) vs ρ r (ρ.set j (.per r)) := ⟨fun F B H τ x Q e hx q =>
  q _ (e.set hx) (fun i hi => out_set h hi) (List.length_set ..)⟩
theorem dps_cons {K : PySem.W.Frag} {B : Hp} {xs : List V} {d : PyData} {ds : List PyData} (h : DpAll K B xs (d :: ds)) : ∃ x r, xs = x :: r ∧ Dp K B x d ∧ DpAll K B r ds := by
  cases h with
  | cons h1 h2 => exact ⟨_, _, rfl, h1, h2⟩
theorem dps_nil {K : PySem.W.Frag} {B : Hp} {xs : List V} (h : DpAll K B xs []) : xs = [] := by
  cases h
  rfl
theorem tg_two {K : PySem.W.Frag} {i j : Nat} {vs : List Nat} {ρ : Rho} {d1 d2 : PyData} (h1 : i ∈ vs) (h2 : j ∈ vs) : Tg (gTup K 2 (gCons (gName i) (gCons (gName j) gNil))) vs ρ (dat K (.tuple [d1, d2])) ((ρ.set i (.per (dat K d1))).set j (.per (dat K d2))) := ⟨fun F B H τ x Q e hx q => by
  obtain ⟨a, xs, rfl, hs, hd⟩ := dp_tup hx
  obtain ⟨x1, r1, rfl, k1, hd⟩ := dps_cons hd
  obtain ⟨x2, r2, rfl, k2, hd⟩ := dps_cons hd
  obtain rfl := dps_nil hd
  refine ⟨a, _, rfl, same_t e.sp.bas hs, rfl, x1, _, rfl, x2, _, rfl, rfl, ?_⟩
  refine q _ ((e.set k1).set k2) (fun k hk => ?_) (by rw [List.length_set, List.length_set])
  rw [out_set h2 hk, out_set h1 hk]⟩
theorem tg_three {K : PySem.W.Frag} {i j l : Nat} {vs : List Nat} {ρ : Rho} {d1 d2 d3 : PyData} (h1 : i ∈ vs) (h2 : j ∈ vs) (h3 : l ∈ vs) : Tg (gTup K 3 (gCons (gName i) (gCons (gName j) (gCons (gName l) gNil)))) vs ρ (dat K (.tuple [d1, d2, d3])) (((ρ.set i (.per (dat K d1))).set j (.per (dat K d2))).set l (.per (dat K d3))) := ⟨fun F B H τ x Q e hx q => by
  obtain ⟨a, xs, rfl, hs, hd⟩ := dp_tup hx
  obtain ⟨x1, r1, rfl, k1, hd⟩ := dps_cons hd
  obtain ⟨x2, r2, rfl, k2, hd⟩ := dps_cons hd
  obtain ⟨x3, r3, rfl, k3, hd⟩ := dps_cons hd
  obtain rfl := dps_nil hd
  refine ⟨a, _, rfl, same_t e.sp.bas hs, rfl, x1, _, rfl, x2, _, rfl, x3, _, rfl, rfl, ?_⟩
  refine q _ (((e.set k1).set k2).set k3) (fun k hk => ?_) (by rw [List.length_set, List.length_set, List.length_set])
  rw [out_set h3 hk, out_set h2 hk, out_set h1 hk]⟩
section
variable {X : Cx} {e : Expr} {ρ ρ1 ρ2 : Rho} {pos pos' : Pos} {vs : List Nat} {r : Rp}
/-- target = value, any target -/
theorem s_asg {tg : Expr} {g : TG} (he : PE X e (tE ρ ρ1 r)) (hg : PG X tg g) (ht : Tg g vs ρ1 r ρ2) (hs : swapsWithSole [tg] e pos.line X.env = pure false := by rfl) (hw : swappedStores [tg] e X.env = pure none := by rfl) (h1 : (assignEach [tg] X.env).map (·.2) = [assign tg X.env] := by rfl) : PS X (.Assign [tg] e pos) (tS ρ (.nx ρ2)) :=
  PS.weak (ps_asg he hg hs hw h1) fun D σ H ⟨F, B, e, q⟩ => ⟨F, B, e, fun v H1 B1 s1 e1 hv => ht.run F B1 H1 σ v D.nx e1 hv fun τ' e2 _ _ => q _ H1 B1 s1 e2⟩
/-- a, b = x, y of plain local names -/
theorem s_par {ra rb : Rp} (i j : Nat) {x y : Str} {a b : Expr} {px py pt : Pos} {kt k2 pt2} (ha : PA X [a, b] (tAs ρ ρ1 [ra, rb])) (hN : X.N.Nodup := by assumption) (hc : X.calm = true := by rfl) (hi : X.N[i]? = some x := by rfl) (hj : X.N[j]? = some y := by rfl) (hij : i ≠ j := by decide)
    (hx : X.env.scope.names.lookup x = some .local := by rfl) (hy : X.env.scope.names.lookup y = some .local := by rfl) (hw : swappedStores [.Tuple [.Name x px, .Name y py] kt pt] (.Tuple [a, b] k2 pt2) X.env = pure (some [x, y]) := by rfl)
    (hs : swapsWithSole [.Tuple [.Name x px, .Name y py] kt pt] (.Tuple [a, b] k2 pt2) pos.line X.env = pure false := by rfl) : PS X (.Assign [.Tuple [.Name x px, .Name y py] kt pt] (.Tuple [a, b] k2 pt2) pos) (tS ρ (.nx ((ρ1.set i (.per ra)).set j (.per rb)))) :=
  PS.weak (ps_par hc hN hi hj hij hx hy ha hw hs) fun D σ H ⟨F, B, e, q⟩ => ⟨F, B, e, fun vs H1 B1 s1 e1 hv => by
    cases hv with
    | cons h1 h2 =>
      cases h2 with
      | cons h2 h3 =>
        cases h3
        exact ⟨_, _, rfl, q _ H1 B1 s1 ((e1.set h1).set h2)⟩⟩
end

/-! ### for -/
section
variable {X : Cx} {tg iter : Expr} {bd : List Stmt} {ρ ρ0 : Rho} {pos : Pos} {items : List Rp} {g : TG} {vs : List Nat}
/-- m whole turns, then the end or a return -/
theorem s_forM {o : Out} (hi : PI X tg iter (iD ρ ρ0 items)) (hg : PG X tg g) (m : Nat) (ρs ρb : Nat → Rho) (h0 : Sub ρ0 (ρs 0)) (ht : ∀ (i : Nat) r, items[i]? = some r → Tg g vs (ρs i) r (ρb i)) (hm : m ≤ items.length)
    (body : ∀ (i : Nat) r, i < m → items[i]? = some r → ∃ ρ', PSs X bd (tS (ρb i) (.nx ρ')) ∧ Sub ρ' (ρs (i + 1)))
    (fin : (m = items.length ∧ o = .nx (ρs m)) ∨ (m < items.length ∧ ∃ rr ρ', o = .rt rr ρ' ∧ PSs X bd (tS (ρb m) (.rt rr ρ'))))
    (hp : PassesOwn (model X.prog X.w) X.A X.env X.xe := by exact PassesOwn.never) (hc : X.calm = true := by rfl) (hs : ∀ x, foldedSetIterable iter X.env x = pure x := by intro _; rfl) : PS X (.For tg iter bd [] pos) (tS ρ o) := by
  let ι := { p : Rho × Out // PSs X bd (tS p.1 p.2) }
  have hb : PSs X bd (fun D σ H => ∃ p : ι, tS p.1.1 p.1.2 D σ H) := PSs.any fun p => p.2
  refine PS.weak (ps_for hp hc hi hg hb hs) fun D σ H ⟨F, B, e, q⟩ => ⟨F, B, e, fun J H1 B1 s1 e1 wk => ?_⟩
  refine ⟨fun i n σ H => ∃ B', Same B1 B' ∧ Evn F B' H σ (ρs i) ∧ i + n = items.length ∧ i ≤ m, ⟨items.length, B1, Same.refl _, e1.less h0, by omega, Nat.zero_le _⟩, ?_⟩
  rintro i n σ2 H2 ⟨B2, s2, e2, hn, him⟩
  by_cases hlt : i < m
  · have hil : i < items.length := by omega
    have hr : items[i]? = some items[i] := List.getElem?_eq_getElem hil
    obtain ⟨hgo, hy⟩ := wk.go i _ B2 H2 hr s2 e2.sp.bas
    obtain ⟨ρ', hbd, hsub⟩ := body i _ hlt hr
    refine .inr ⟨hgo, fun σ' H' => ∃ B', Same B1 B' ∧ Evn F B' H' σ' (ρs (i + 1)) ∧ (i + 1) + (n - 1) = items.length ∧ i + 1 ≤ m, fun σ' H' hN => ⟨n - 1, by omega, hN⟩, fun x H3 y => ?_⟩
    obtain ⟨B3, g3, hx⟩ := hy x H3 y
    refine (ht i _ hr).run F B3 H3 σ2 x _ (e2.grow g3) hx fun τ' e4 _ _ => ⟨⟨(ρb i, .nx ρ'), hbd⟩, F, B3, e4, fun σ' H' B' s' e' => ⟨B', (s2.trans g3.bup).trans s', e'.less hsub, by omega, by omega⟩⟩
  · have him' : i = m := by omega
    subst him'
    rcases fin with ⟨hml, rfl⟩ | ⟨hml, rr, ρ', rfl, hbd⟩
    · refine .inl ⟨?_, ?_⟩
      · rw [hml]
        exact wk.stop B2 H2 s2 e2.sp.bas
      · exact q _ H2 B2 (s1.trans s2) e2
    · have hr : items[i]? = some items[i] := List.getElem?_eq_getElem hml
      obtain ⟨hgo, hy⟩ := wk.go i _ B2 H2 hr s2 e2.sp.bas
      refine .inr ⟨hgo, fun _ _ => False, fun σ' H' hN => hN.elim, fun x H3 y => ?_⟩
      obtain ⟨B3, g3, hx⟩ := hy x H3 y
      exact (ht i _ hr).run F B3 H3 σ2 x _ (e2.grow g3) hx fun τ' e4 _ _ => ⟨⟨(ρb i, .rt rr ρ'), hbd⟩, F, B3, e4, fun v σ' H' B' s' e' hv => q v σ' H' B' (s1.trans ((s2.trans g3.bup).trans s')) e' hv⟩
/-- every turn goes on -/
theorem s_for (hi : PI X tg iter (iD ρ ρ0 items)) (hg : PG X tg g) (ρs ρb : Nat → Rho) (h0 : Sub ρ0 (ρs 0)) (ht : ∀ (i : Nat) r, items[i]? = some r → Tg g vs (ρs i) r (ρb i))
    (body : ∀ (i : Nat) r, items[i]? = some r → ∃ ρ', PSs X bd (tS (ρb i) (.nx ρ')) ∧ Sub ρ' (ρs (i + 1)))
    (hp : PassesOwn (model X.prog X.w) X.A X.env X.xe := by exact PassesOwn.never) (hc : X.calm = true := by rfl) (hs : ∀ x, foldedSetIterable iter X.env x = pure x := by intro _; rfl) : PS X (.For tg iter bd [] pos) (tS ρ (.nx (ρs items.length))) :=
  s_forM hi hg items.length ρs ρb h0 ht (Nat.le_refl _) (fun i r _ h => body i r h) (.inl ⟨rfl, rfl⟩) hp hc hs
end
/-! ### while -/
section
variable {X : Cx} {c : Expr} {bd : List Stmt} {ρ : Rho} {pos : Pos}
/-- m turns -/
theorem s_while (m : Nat) (ρs : Nat → Rho) (h0 : Sub ρ (ρs 0)) (test : ∀ i, i ≤ m → PT X c (tT (ρs i) (ρs i) (decide (i < m)))) (body : ∀ i, i < m → ∃ ρ', PSs X bd (tS (ρs i) (.nx ρ')) ∧ Sub ρ' (ρs (i + 1)))
    (hp : PassesOwn (model X.prog X.w) X.A X.env X.xe := by exact PassesOwn.never) : PS X (.While c bd [] pos) (tS ρ (.nx (ρs m))) := by
  let ι := { p : Rho × Out // PSs X bd (tS p.1 p.2) }
  let κ := { p : Rho × Bool // PT X c (tT p.1 p.1 p.2) }
  have hb : PSs X bd (fun D σ H => ∃ p : ι, tS p.1.1 p.1.2 D σ H) := PSs.any fun p => p.2
  have ht : PT X c (fun σ H Q => ∃ p : κ, tT p.1.1 p.1.1 p.1.2 σ H Q) := PT.any fun p => p.2
  refine PS.weak (ps_while hp ht hb) fun D σ H ⟨F, B, e, q⟩ => ?_
  refine ⟨fun n σ H => ∃ i B', Same B B' ∧ Evn F B' H σ (ρs i) ∧ i + n = m, ⟨m, 0, B, Same.refl _, e.less h0, Nat.zero_add _⟩, ?_⟩
  rintro n σ2 H2 ⟨i, B2, s2, e2, hn⟩
  have tt := test i (by omega)
  by_cases hlt : i < m
  · rw [show (decide (i < m)) = true from decide_eq_true hlt] at tt
    obtain ⟨ρ', hbd, hsub⟩ := body i hlt
    refine ⟨⟨(ρs i, true), tt⟩, F, B2, e2, fun H3 B3 s3 e3 => ?_⟩
    refine iteT ⟨fun σ' H' => ∃ B', Same B B' ∧ Evn F B' H' σ' (ρs (i + 1)), fun σ' H' ⟨B', s', e'⟩ => ⟨n - 1, by omega, i + 1, B', s', e', by omega⟩, ?_⟩
    exact ⟨⟨(ρs i, .nx ρ'), hbd⟩, F, B3, e3, fun σ' H' B' s' e' => ⟨B', (s2.trans s3).trans s', e'.less hsub⟩⟩
  · rw [show (decide (i < m)) = false from decide_eq_false hlt] at tt
    have him : i = m := by omega
    subst him
    refine ⟨⟨(ρs i, false), tt⟩, F, B2, e2, fun H3 B3 s3 e3 => ?_⟩
    exact iteF (q _ H3 B3 (s2.trans s3) e3)
end
end Fc
/-! FcE: list comprehensions; a def's body. -/
namespace Fc
open PySem PySem.Spec PyProof.Rows L2

/-! ### slots of a block -/
theorem wipe_get (σ : L2.St) : ∀ (vs : List Nat) (i : Nat), (wipe σ vs)[i]? = if i ∈ vs then (if i < σ.length then some none else none) else σ[i]?
  | [], i => by simp [wipe]
  | v :: vs, i => by
    unfold wipe
    by_cases h : v = i
    · subst h
      by_cases hl : v < σ.length
      · rw [List.getElem?_set_self (by rw [wipe_length]; exact hl)]
        simp [hl]
      · rw [List.getElem?_eq_none (by rw [List.length_set, wipe_length]; omega)]
        simp [hl]
    · rw [List.getElem?_set_ne h, wipe_get σ vs i]
      have : i ≠ v := fun z => h z.symm
      simp [this]
theorem wipe_eq {σ τ : L2.St} {vs : List Nat} (h : ∀ i, i ∉ vs → τ[i]? = (wipe σ vs)[i]?) (hl : τ.length = (wipe σ vs).length) : wipe τ vs = wipe σ vs := by
  rw [wipe_length] at hl
  refine List.ext_getElem? fun i => ?_
  rw [wipe_get, wipe_get]
  by_cases hi : i ∈ vs
  · rw [if_pos hi, if_pos hi, hl]
  · rw [if_neg hi, if_neg hi, h i hi, wipe_get, if_neg hi]
/-- nothing is known at these slots -/
def NoAt (ρ : Rho) (vs : List Nat) : Prop := ∀ i ∈ vs, ∀ s, ρ[i]? = some s → s = .no
theorem NoAt.nil {ρ : Rho} : NoAt ρ [] := fun _ h => nomatch h
theorem NoAt.cons {ρ : Rho} {v : Nat} {vs : List Nat} (h : ρ[v]? = some .no) (t : NoAt ρ vs) : NoAt ρ (v :: vs) := fun i hi s hs => by
  rcases List.mem_cons.mp hi with rfl | hi
  · rw [h] at hs
    cases hs
    rfl
  · exact t i hi s hs
theorem Evn.agree {F B H : Hp} {σ τ : L2.St} {ρ : Rho} (e : Evn F B H τ ρ) (hl : σ.length = τ.length) (h : ∀ (i : Nat) s, ρ[i]? = some s → s ≠ .no → σ[i]? = τ[i]?) : Evn F B H σ ρ where
  sp := e.sp
  len := e.len.trans hl.symm
  per := fun i r hi => by
    rw [h i _ hi (by intro z; cases z)]
    exact e.per i r hi
  own := fun i c hi => by
    rw [h i _ hi (by intro z; cases z)]
    exact e.own i c hi
  sep := fun i j c d a hi hj si sj => by
    rw [h i _ hi (by intro z; cases z)] at si
    rw [h j _ hj (by intro z; cases z)] at sj
    exact e.sep i j c d a hi hj si sj
theorem Evn.wiped {F B H : Hp} {σ : L2.St} {ρ : Rho} {vs : List Nat} (e : Evn F B H σ ρ) (n : NoAt ρ vs) : Evn F B H (wipe σ vs) ρ :=
  e.agree (wipe_length _ _) fun i s hi hs => by
    rw [wipe_get, if_neg fun z => hs (n i z s hi)]
theorem Evn.unwiped {F B H : Hp} {σ τ : L2.St} {ρ : Rho} {vs : List Nat} (e : Evn F B H τ ρ) (n : NoAt ρ vs) (h : ∀ i, i ∉ vs → τ[i]? = (wipe σ vs)[i]?) (hl : τ.length = (wipe σ vs).length) : Evn F B H σ ρ :=
  e.agree (by rw [hl, wipe_length]) fun i s hi hs => by
    have hi' : i ∉ vs := fun z => hs (n i z s hi)
    rw [h i hi', wipe_get, if_neg hi']
/-! a thing that only the frame holds -/
theorem Evn.keepNew {F B H : Hp} {σ : L2.St} {ρ : Rho} {D : Addr} {o : HO} (e : Evn F B H σ ρ) (hn : H D = none) : Evn (upd F D o) B (upd H D o) σ ρ := by
  have e2 := e.grow (Grow.lone (o := o) e.sp.bas hn)
  refine ⟨⟨e2.sp.bas, fun a u h => ?_, fun a u h => ?_⟩, e2.len, e2.per, fun i c h => ?_, e2.sep⟩
  · by_cases ha : a = D
    · subst ha
      rw [upd_same] at h ⊢
      exact h
    · rw [upd_ne ha] at h
      exact e2.sp.frm a u h
  · by_cases ha : a = D
    · subst ha
      exact free_back e.sp.bas hn
    · rw [upd_ne ha] at h
      exact e2.sp.dis a u h
  · obtain ⟨a, h1, h2, h3, h4⟩ := e2.own i c h
    refine ⟨a, h1, h2, ?_, h4⟩
    by_cases ha : a = D
    · exact absurd h1 (by rw [ha]; exact e.noO hn i c h)
    · rw [upd_ne ha]
      exact h3
theorem Evn.keepMut {F B H : Hp} {σ : L2.St} {ρ : Rho} {D : Addr} {o o' : HO} (e : Evn (upd F D o) B H σ ρ) : Evn (upd F D o') B (upd H D o') σ ρ := by
  have hB : B D = none := e.sp.dis D o upd_same
  refine ⟨⟨same_mut e.sp.bas hB, fun a u h => ?_, fun a u h => ?_⟩, e.len, e.per, fun i c h => ?_, e.sep⟩
  · by_cases ha : a = D
    · subst ha
      rw [upd_same] at h ⊢
      exact h
    · rw [upd_ne ha] at h ⊢
      exact e.sp.frm a u (by rw [upd_ne ha]; exact h)
  · by_cases ha : a = D
    · subst ha
      exact hB
    · rw [upd_ne ha] at h
      exact e.sp.dis a u (by rw [upd_ne ha]; exact h)
  · obtain ⟨a, h1, h2, h3, h4⟩ := e.own i c h
    have ha : a ≠ D := fun z => by rw [z, upd_same] at h3; cases h3
    refine ⟨a, h1, h2, ?_, c.mono (Same.refl B) (upd_ne ha) h4⟩
    rw [upd_ne ha] at h3 ⊢
    exact h3
theorem Evn.keepDrop {F B H : Hp} {σ : L2.St} {ρ : Rho} {D : Addr} {o : HO} {c : Ow} (e : Evn (upd F D o) B H σ ρ) (hF : F D = none) (hc : c.p D B H) : Evn F B H σ ρ ∧ Fresh F B H σ ρ D c := by
  have low : ∀ a u, F a = some u → (upd F D o) a = some u := fun a u h => by
    rw [upd_ne (fun z => by rw [z, hF] at h; cases h)]
    exact h
  refine ⟨⟨⟨e.sp.bas, fun a u h => e.sp.frm a u (low a u h), fun a u h => e.sp.dis a u (low a u h)⟩, e.len, e.per, fun i d h => ?_, e.sep⟩, ⟨e.sp.dis D o upd_same, hF, fun j d hj hs => ?_, hc⟩⟩
  · obtain ⟨a, h1, h2, h3, h4⟩ := e.own i d h
    have ha : a ≠ D := fun z => by rw [z, upd_same] at h3; cases h3
    rw [upd_ne ha] at h3
    exact ⟨a, h1, h2, h3, h4⟩
  · obtain ⟨a, h1, h2, h3, h4⟩ := e.own j d hj
    rw [hs] at h1
    cases h1
    rw [upd_same] at h3
    cases h3

/-! ### a list comprehension -/
theorem PTs.weak {X : Cx} {ifs : List Expr} {t t' : TT} (h : PTs X ifs t) (k : ∀ σ H Q, t' σ H Q → t σ H Q) : PTs X ifs t' := ⟨fun pins s σ H Q I q => h.run pins s σ H Q I (k σ H Q q)⟩
theorem PTs.any {X : Cx} {ifs : List Expr} {ι : Sort _} {t : ι → TT} (h : ∀ i, PTs X ifs (t i)) : PTs X ifs (fun σ H Q => ∃ i, t i σ H Q) := ⟨fun pins s σ H Q I ⟨i, q⟩ => (h i).run pins s σ H Q I q⟩
theorem ts_nil {X : Cx} {ρ : Rho} : PTs X [] (tT ρ ρ true) := PTs.weak pts_nil fun σ H Q ⟨F, B, e, q⟩ => q H B (Same.refl B) e
theorem ts_one {X : Cx} {c : Expr} {ρ ρ' : Rho} {b : Bool} (h : PT X c (tT ρ ρ' b)) : PTs X [c] (tT ρ ρ' b) := pts_one h
/-- what is made of the first i items -/
def accD (keep : Nat → Bool) (el : Nat → PyData) : Nat → List PyData
  | 0 => []
  | i + 1 => if keep i then accD keep el i ++ [el i] else accD keep el i
theorem accD_len (keep : Nat → Bool) (el : Nat → PyData) : ∀ i, (accD keep el i).length ≤ i
  | 0 => Nat.le_refl _
  | i + 1 => by
    unfold accD
    have := accD_len keep el i
    split
    · rw [List.length_append, List.length_singleton]; omega
    · omega
theorem accD_filter {α : Type} (xs : List α) (k : α → Bool) (f : α → PyData) (keep : Nat → Bool) (el : Nat → PyData) (hk : ∀ (i : Nat) x, xs[i]? = some x → keep i = k x) (he : ∀ (i : Nat) x, xs[i]? = some x → el i = f x) : ∀ i, i ≤ xs.length → accD keep el i = ((xs.take i).filter k).map f
  | 0, _ => rfl
  | i + 1, h => by
    have hi : i < xs.length := h
    have hx : xs[i]? = some xs[i] := List.getElem?_eq_getElem hi
    unfold accD
    rw [accD_filter xs k f keep el hk he i (by omega), List.take_add_one, hx, hk i _ hx, he i _ hx]
    simp only [Option.toList_some, List.filter_append, List.map_append]
    cases h : k xs[i] <;> simp [h]
section
variable {X : Cx} {elt tg iter : Expr} {ifs : List Expr} {scope : Scope} {own : List (Str × Nat)} {pos spos py : Pos} {ρ ρ0 : Rho} {items : List Rp} {g : TG} {y : Str}
/-- what is asked of a comprehension: ρs ahead of each turn, ρb behind the target's store -/
structure LcOk (X : Cx) (elt tg iter : Expr) (ifs : List Expr) (scope : Scope) (own : List (Str × Nat)) (ρ ρ0 : Rho) (items : List Rp) (g : TG) (ρs ρb : Nat → Rho) (keep : Nat → Bool) (el : Nat → PyData) : Prop where
  iter : PI X tg iter (iD ρ ρ0 items)
  blk : BlkOk X.N X.env.scope scope own
  tgt : ∀ (s : Shared) (H : Hp) (C : Addr) (cl : List (Str × Addr)) (fp : List Addr), PG (X.blk s H scope (compEnvC scope cl C X.env) fp) tg g
  sub : Sub ρ0 (ρs 0)
  noat : ∀ i, NoAt (ρs i) (own.map (·.2))
  tg : ∀ (i : Nat) r, items[i]? = some r → Tg g (own.map (·.2)) (ρs i) r (ρb i)
  test : ∀ (i : Nat), i < items.length → ∀ (s : Shared) (H : Hp) (C : Addr) (cl : List (Str × Addr)) (fp : List Addr), PTs (X.blk s H scope (compEnvC scope cl C X.env) fp) ifs (tT (ρb i) (ρb i) (keep i))
  elem : ∀ (i : Nat), i < items.length → keep i = true → ∃ ρ', Sub ρ' (ρs (i + 1)) ∧ ∀ (s : Shared) (H : Hp) (C : Addr) (cl : List (Str × Addr)) (fp : List Addr), PE (X.blk s H scope (compEnvC scope cl C X.env) fp) elt (tE (ρb i) ρ' (dat X.K (el i)))
  skip : ∀ (i : Nat), i < items.length → keep i = false → Sub (ρb i) (ρs (i + 1))
  few : items.length ≤ 1000000
theorem lc_run {ρs ρb : Nat → Rho} {keep : Nat → Bool} {el : Nat → PyData} (L : LcOk X elt tg iter ifs scope own ρ ρ0 items g ρs ρb keep el) (hs : ∀ x, foldedSetIterable iter X.env x = pure x) :
    ∃ tt te, (∀ (s : Shared) (H : Hp) (C : Addr) (cl : List (Str × Addr)) (fp : List Addr), PTs (X.blk s H scope (compEnvC scope cl C X.env) fp) ifs tt) ∧ (∀ (s : Shared) (H : Hp) (C : Addr) (cl : List (Str × Addr)) (fp : List Addr), PE (X.blk s H scope (compEnvC scope cl C X.env) fp) elt te) ∧
      ∀ σ H Q, tN ρ (ρs items.length) (lstO X.K (accD keep el items.length)) σ H Q → tLc (iD ρ ρ0 items) g tt te (own.map (·.2)) σ H Q := by
  let ιt := { p : Rho × Bool // ∀ (s : Shared) (H : Hp) (C : Addr) (cl : List (Str × Addr)) (fp : List Addr), PTs (X.blk s H scope (compEnvC scope cl C X.env) fp) ifs (tT p.1 p.1 p.2) }
  let ιe := { p : Rho × Rho × PyData // ∀ (s : Shared) (H : Hp) (C : Addr) (cl : List (Str × Addr)) (fp : List Addr), PE (X.blk s H scope (compEnvC scope cl C X.env) fp) elt (tE p.1 p.2.1 (dat X.K p.2.2)) }
  refine ⟨fun σ H Q => ∃ p : ιt, tT p.1.1 p.1.1 p.1.2 σ H Q, fun σ H Q => ∃ p : ιe, tE p.1.1 p.1.2.1 (dat X.K p.1.2.2) σ H Q, fun s H C cl fp => PTs.any fun p => p.2 s H C cl fp, fun s H C cl fp => PE.any fun p => p.2 s H C cl fp, ?_⟩
  rintro σ H Q ⟨F, B, e, q⟩
  refine ⟨F, B, e, fun J H1 B1 s1 e1 wk D hD => ?_⟩
  have hF : F D = none := e1.noF hD
  refine ⟨fun i n H' => ∃ B' acc, Same B1 B' ∧ Evn (upd F D (.lst acc)) B' H' σ (ρs i) ∧ DpAll X.K B' acc (accD keep el i) ∧ i + n = items.length, ⟨items.length, B1, [], Same.refl _, (e1.less L.sub).keepNew hD, .nil, Nat.zero_add _⟩, ?_⟩
  rintro i n H2 ⟨B2, acc, s2, e2, ha, hn⟩
  have hDat : H2 D = some (.lst acc) := e2.sp.frm D _ upd_same
  by_cases hlt : i < items.length
  · have hr : items[i]? = some items[i] := List.getElem?_eq_getElem hlt
    obtain ⟨hgo, hy⟩ := wk.go i _ B2 H2 hr s2 e2.sp.bas
    refine .inr ⟨hgo, fun H' => ∃ B' acc, Same B1 B' ∧ Evn (upd F D (.lst acc)) B' H' σ (ρs (i + 1)) ∧ DpAll X.K B' acc (accD keep el (i + 1)) ∧ (i + 1) + (n - 1) = items.length, fun H' hN => ⟨n - 1, by omega, hN⟩, fun x H3 hx => ?_⟩
    obtain ⟨B3, g3, hx⟩ := hy x H3 hx
    have e3 := (e2.grow g3).wiped (L.noat i)
    refine (L.tg i _ hr).run _ B3 H3 (wipe σ (own.map (·.2))) x _ e3 hx ?_
    intro τ' e4 hout hlen
    refine ⟨wipe_eq hout hlen, ?_⟩
    refine ⟨⟨(ρb i, keep i), L.test i hlt⟩, _, B3, e4, fun H5 B5 s5 e5 => ?_⟩
    show if keep i = true then _ else _
    cases hk : keep i with
    | true =>
      obtain ⟨ρ', hsub, hpe⟩ := L.elem i hlt hk
      refine iteT ⟨⟨(ρb i, ρ', el i), hpe⟩, _, B5, e5, fun v H6 B6 s6 e6 hv => ?_⟩
      have hD6 : H6 D = some (.lst acc) := e6.sp.frm D _ upd_same
      have hlen' : acc.length ≤ i := by
        rw [dps_len ha]
        exact accD_len _ _ _
      refine ⟨acc, hD6, by have := L.few; rw [sizeLine_eq]; omega, B6, acc ++ [v], ((s2.trans g3.bup).trans s5).trans s6, ?_, ?_, by omega⟩
      · exact (((e6.less hsub).unwiped (L.noat (i + 1)) hout hlen)).keepMut
      · show DpAll X.K B6 (acc ++ [v]) (if keep i = true then accD keep el i ++ [el i] else accD keep el i)
        rw [hk]
        exact dps_app (dps_mono ((g3.bup.trans s5).trans s6) _ _ ha) (dps_one hv)
    | false =>
      refine iteF ⟨B5, acc, ((s2.trans g3.bup).trans s5), ?_, ?_, by omega⟩
      · exact (e5.less (L.skip i hlt hk)).unwiped (L.noat (i + 1)) hout hlen
      · show DpAll X.K B5 acc (if keep i = true then accD keep el i ++ [el i] else accD keep el i)
        rw [hk]
        exact dps_mono (g3.bup.trans s5) _ _ ha
  · have hi : i = items.length := by omega
    subst hi
    refine .inl ⟨wk.stop B2 H2 s2 e2.sp.bas, ?_⟩
    obtain ⟨e3, f⟩ := e2.keepDrop (c := lstO X.K (accD keep el items.length)) hF ⟨acc, hDat, ha⟩
    exact q D H2 B2 (s1.trans s2) e3 f
theorem n_lc {ρs ρb : Nat → Rho} {keep : Nat → Bool} {el : Nat → PyData} (L : LcOk X elt tg iter ifs scope own ρ ρ0 items g ρs ρb keep el) (hN : X.N.Nodup := by assumption) (hc : X.calm = true := by rfl) (hs : ∀ x, foldedSetIterable iter X.env x = pure x := by intro _; rfl) :
    PE X (.ListComp elt [⟨tg, iter, ifs, 0⟩] scope pos) (tN ρ (ρs items.length) (lstO X.K (accD keep el items.length))) := by
  obtain ⟨tt, te, h1, h2, h3⟩ := lc_run L hs
  exact PE.weak (t := tLc (iD ρ ρ0 items) g tt te (own.map (·.2))) (pe_lc hc hN L.iter L.blk L.tgt h1 h2 hs) h3
theorem d_lc {ρs ρb : Nat → Rho} {keep : Nat → Bool} {el : Nat → PyData} {ds : List PyData} {ρ' : Rho} (L : LcOk X elt tg iter ifs scope own ρ ρ0 items g ρs ρb keep el) (he : accD keep el items.length = ds) (hρ : ρs items.length = ρ') (hN : X.N.Nodup := by assumption) (hc : X.calm = true := by rfl) (hs : ∀ x, foldedSetIterable iter X.env x = pure x := by intro _; rfl) :
    PE X (.ListComp elt [⟨tg, iter, ifs, 0⟩] scope pos) (tE ρ ρ' (dat X.K (.list ds))) := by
  subst he hρ
  exact d_share (n_lc L hN hc hs) sh_lst
/-- y = [..] -/
theorem s_lc (i : Nat) {ρs ρb : Nat → Rho} {keep : Nat → Bool} {el : Nat → PyData} {ds : List PyData} {ρ' : Rho} (L : LcOk X elt tg iter ifs scope own ρ ρ0 items g ρs ρb keep el) (he : accD keep el items.length = ds) (hρ : ρs items.length = ρ') (hN : X.N.Nodup := by assumption) (hc : X.calm = true := by rfl) (hy : X.N[i]? = some y := by rfl) (hyl : X.env.scope.names.lookup y = some .local := by rfl)
    (hsw : swapsWith (.ListComp elt [⟨tg, iter, ifs, 0⟩] scope pos) (some (.Name y py)) spos.line X.env = pure true := by exact sw_true rfl rfl rfl (by decide +kernel)) (hs : ∀ x, foldedSetIterable iter X.env x = pure x := by intro _; rfl) :
    PS X (.Assign [.Name y py] (.ListComp elt [⟨tg, iter, ifs, 0⟩] scope pos) spos) (tS ρ (.nx (ρ'.set i (.per (dat X.K (.list ds)))))) := by
  subst he hρ
  obtain ⟨tt, te, h1, h2, h3⟩ := lc_run L hs
  refine PS.weak (ps_setLc hc hN hy hyl hsw L.iter L.blk L.tgt h1 h2 hs) fun D σ H ⟨F, B, e, q⟩ => ?_
  refine h3 σ H _ ⟨F, B, e, fun a H1 B1 s1 e1 f => ?_⟩
  obtain ⟨o, sB, e2, hr⟩ := e1.share f sh_lst
  exact q _ H1 _ (s1.trans sB) (e2.set hr)
end

/-! ### a def's body -/
theorem Reps.get {B : Hp} : ∀ {rs : List Rp} {vs : List V} {i : Nat} {r : Rp} {v : V}, Reps rs vs B → rs[i]? = some r → vs[i]? = some v → r.p v B
  | _, _, _, _, _, .nil, h1, _ => by simp at h1
  | _, _, 0, _, _, .cons h _, k1, k2 => by cases k1; cases k2; exact h
  | _, _, i + 1, r, v, .cons _ t, k1, k2 => t.get (i := i) (r := r) (v := v) k1 k2
theorem spl_start {F B H : Hp} (s : Split F B H) {rs : List Rp} {vs : List V} (hv : Reps rs vs B) : ∀ (n : Nat), Evn F B H (vs.map some ++ List.replicate n none) (rs.map Sl.per ++ List.replicate n .no) := fun n => by
  have hl := hv.length
  have key : ∀ (i : Nat) s, (rs.map Sl.per ++ List.replicate n Sl.no)[i]? = some s → s ≠ .no → ∃ r v, s = .per r ∧ rs[i]? = some r ∧ vs[i]? = some v := fun i s h hs => by
    by_cases hi : i < rs.length
    · rw [List.getElem?_append_left (by rw [List.length_map]; exact hi), List.getElem?_map, List.getElem?_eq_getElem hi] at h
      cases h
      exact ⟨rs[i], vs[i]'(by omega), rfl, List.getElem?_eq_getElem hi, List.getElem?_eq_getElem (by omega)⟩
    · rw [List.getElem?_append_right (by rw [List.length_map]; omega)] at h
      have := List.mem_of_getElem? h
      rw [List.mem_replicate] at this
      exact absurd this.2 hs
  refine ⟨s, by simp [hl], fun i r h => ?_, fun i c h => ?_, fun i j c d a h => ?_⟩
  · obtain ⟨r', v, e, h1, h2⟩ := key i _ h (by intro z; cases z)
    cases e
    refine ⟨v, ?_, hv.get h1 h2⟩
    have hi : i < vs.length := (List.getElem?_eq_some_iff.mp h2).1
    rw [List.getElem?_append_left (by rw [List.length_map]; exact hi), List.getElem?_map, h2]
    rfl
  · obtain ⟨r', v, e, _, _⟩ := key i _ h (by intro z; cases z)
    cases e
  · obtain ⟨r', v, e, _, _⟩ := key i _ h (by intro z; cases z)
    cases e
section
variable {P : Program} {w : World} {K : PySem.W.Frag} {mg : Str → Option Value} {base : Heap}
/-- a family of promises -/
def spI {ι : Type} (pre : ι → Prop) (rs : ι → List Rp) (r : ι → Rp) : Sp := fun vs H Q _ => ∃ i, pre i ∧ spR (rs i) (r i) vs H Q
theorem spI_of {ι : Type} {pre : ι → Prop} {rs : ι → List Rp} {r : ι → Rp} {E : XK} (i : ι) (h : pre i) : ∀ vs H Q, spR (rs i) (r i) vs H Q → spI pre rs r vs H Q E := fun vs H Q s => ⟨i, h, s⟩
abbrev cxD (P : Program) (w : World) (K : PySem.W.Frag) (mg : Str → Option Value) (base : Heap) (N : List Str) (qual : Str) (st : Stmt) (f : Addr) (cdv : Value) (A : Around) (outer : List PySem.Env) (s : Shared) (H : Hp) (E : XK) : Cx :=
  (cxOf CX0 P w K mg base N qual (defScope st) f cdv A outer s H E).nox
theorem fn_pure {x qual : Str} {st : Stmt} {f : Addr} {fd : FuncData} {N ps : List Str} {k : Nat} {ι : Type} {pre : ι → Prop} {rs : ι → List Rp} {r : ι → Rp} (F : Fun K x qual st f fd) (S : FnScope N ps (defScope st)) (hl : ∀ i, (rs i).length = ps.length)
    (body : ∀ (cdv : Value) (A : Around) (outer : List PySem.Env) (s : Shared) (H : Hp) (E : XK) (i : ι), Room k (A.deeper (envOfC qual (defScope st) s.heap.objs.size f cdv)) → pre i →
      ∃ o, PSs (cxD P w K mg base N qual st f cdv A outer s H E) (defBody st) (tS ((rs i).map Sl.per ++ List.replicate (N.length - ps.length) .no) o) ∧ ((∃ ρ', o = .rt (r i) ρ') ∨ ∃ ρ', o = .nx ρ' ∧ ∀ B, (r i).p .non B)) :
    FnOk P w K mg base CX0 (k + 1) f fd ps (spI pre rs r) := by
  refine F.ok S (fun vs H Q E ⟨i, _, F, B, _, hv, _⟩ => by rw [hv.length]; exact hl i) (fun cdv A outer s H vs Q E hr ⟨i, hp, Fr, B, sp, hv, q⟩ => ?_)
  obtain ⟨o, hb, ho⟩ := body cdv A outer s H E i hr hp
  refine ⟨_, hb, ?_⟩
  have e := spl_start sp hv (N.length - ps.length)
  have hst : L2.start N vs = vs.map some ++ List.replicate (N.length - ps.length) none := by
    unfold L2.start
    rw [hv.length, hl i]
  rw [hst]
  refine ⟨Fr, B, e, ?_⟩
  rcases ho with ⟨ρ', rfl⟩ | ⟨ρ', rfl, hn⟩
  · exact fun v σ' H' B' s e' hv => q v H' B' s e'.sp hv
  · exact fun σ' H' B' s e' => q .non H' B' s e'.sp (hn B')
end
end Fc
/-! FcO: the operations by what is read. -/
namespace Fc
open PySem PySem.Spec PyProof.Rows L2
section
variable {K : PySem.W.Frag}
theorem dp_int {H : Hp} {v : V} {i : Int} (h : Dp K H v (.int i)) : v = .int i := by cases h; rfl
theorem dp_str {H : Hp} {v : V} {i : Str} (h : Dp K H v (.str i)) : v = .str i := by cases h; rfl
theorem dp_bl {H : Hp} {v : V} {i : Bool} (h : Dp K H v (.bool i)) : v = .bl i := by cases h; rfl
theorem dp_non {H : Hp} {v : V} (h : Dp K H v .none) : v = .non := by cases h; rfl
/-! ints -/
theorem opd_I0 {g : Int → Int → Int} {i j : Int} : Opd (rI0 fun i j => .int (g i j)) (dat K (.int i)) (dat K (.int j)) (dat K (.int (g i j))) := fun B H x y Q s hx hy q => by
  cases hx; cases hy
  exact ⟨i, j, rfl, rfl, q _ B H (Grow.refl s) (Dp.int _)⟩
theorem opd_I {C : Int → Int → Prop} {g : Int → Int → Int} {i j : Int} (hc : C i j) : Opd (rI C fun i j => .int (g i j)) (dat K (.int i)) (dat K (.int j)) (dat K (.int (g i j))) := fun B H x y Q s hx hy q => by
  cases hx; cases hy
  exact ⟨i, j, rfl, rfl, hc, q _ B H (Grow.refl s) (Dp.int _)⟩
theorem opd_B0 {g : Int → Int → Bool} {i j : Int} {b : Bool} (h : g i j = b) : Opd (rI0 fun i j => .bl (g i j)) (dat K (.int i)) (dat K (.int j)) (dat K (.bool b)) := fun B H x y Q s hx hy q => by
  cases hx; cases hy
  subst h
  exact ⟨i, j, rfl, rfl, q _ B H (Grow.refl s) (Dp.bl _)⟩
/-! == of scalars -/
theorem opd_eqI {i j : Int} {b : Bool} (h : decide (i = j) = b) : Opd rEq (dat K (.int i)) (dat K (.int j)) (dat K (.bool b)) := fun B H x y Q s hx hy q => by
  cases hx; cases hy
  refine ⟨rfl, ?_⟩
  have e : decide (V.int i = V.int j) = b := by rw [← h]; by_cases z : i = j <;> simp [z]
  rw [e]
  exact q _ B H (Grow.refl s) (Dp.bl _)
theorem opd_eqS {i j : Str} {b : Bool} (h : decide (i = j) = b) : Opd rEq (dat K (.str i)) (dat K (.str j)) (dat K (.bool b)) := fun B H x y Q s hx hy q => by
  cases hx; cases hy
  refine ⟨rfl, ?_⟩
  have e : decide (V.str i = V.str j) = b := by rw [← h]; by_cases z : i = j <;> simp [z]
  rw [e]
  exact q _ B H (Grow.refl s) (Dp.bl _)
theorem opd_eqB {i j : Bool} {b : Bool} (h : decide (i = j) = b) : Opd rEq (dat K (.bool i)) (dat K (.bool j)) (dat K (.bool b)) := fun B H x y Q s hx hy q => by
  cases hx; cases hy
  refine ⟨rfl, ?_⟩
  have e : decide (V.bl i = V.bl j) = b := by rw [← h]; by_cases z : i = j <;> simp [z]
  rw [e]
  exact q _ B H (Grow.refl s) (Dp.bl _)
theorem opd_neI {i j : Int} {b : Bool} (h : (!decide (i = j)) = b) : Opd rNe (dat K (.int i)) (dat K (.int j)) (dat K (.bool b)) := fun B H x y Q s hx hy q => by
  cases hx; cases hy
  refine ⟨rfl, ?_⟩
  have e : (!decide (V.int i = V.int j)) = b := by rw [← h]; by_cases z : i = j <;> simp [z]
  rw [e]
  exact q _ B H (Grow.refl s) (Dp.bl _)
theorem opd_neS {i j : Str} {b : Bool} (h : (!decide (i = j)) = b) : Opd rNe (dat K (.str i)) (dat K (.str j)) (dat K (.bool b)) := fun B H x y Q s hx hy q => by
  cases hx; cases hy
  refine ⟨rfl, ?_⟩
  have e : (!decide (V.str i = V.str j)) = b := by rw [← h]; by_cases z : i = j <;> simp [z]
  rw [e]
  exact q _ B H (Grow.refl s) (Dp.bl _)
/-! == of data -/
theorem opd_eqD {d e : PyData} {b : Bool} (hd : SeqAt.shaped d = true) (he : SeqAt.shaped e = true) (h : PyData.eqv d e = b) : Opd (rEqD K) (dat K d) (dat K e) (dat K (.bool b)) := fun B H x y Q s hx hy q => by
  subst h
  exact ⟨d, e, dp_mono s d x hx, dp_mono s e y hy, hd, he, q _ B H (Grow.refl s) (Dp.bl _)⟩
theorem opd_neD {d e : PyData} {b : Bool} (hd : SeqAt.shaped d = true) (he : SeqAt.shaped e = true) (h : (!PyData.eqv d e) = b) : Opd (rNeD K) (dat K d) (dat K e) (dat K (.bool b)) := fun B H x y Q s hx hy q => by
  subst h
  exact ⟨d, e, dp_mono s d x hx, dp_mono s e y hy, hd, he, q _ B H (Grow.refl s) (Dp.bl _)⟩
/-! is None -/
def isNon : PyData → Bool
  | .none => true
  | _ => false
theorem dec_non {H : Hp} {v : V} {d : PyData} (h : Dp K H v d) : decide (v = .non) = isNon d := by
  cases h <;> simp [isNon]
theorem opd_isN {d : PyData} {b : Bool} (h : isNon d = b) : Opd (fun x y H Q => y = .non ∧ Q (.bl (decide (x = .non))) H) (dat K d) (dat K .none) (dat K (.bool b)) := fun B H x y Q s hx hy q => by
  refine ⟨dp_non hy, ?_⟩
  rw [dec_non hx, h]
  exact q _ B H (Grow.refl s) (Dp.bl _)
theorem opd_notN {d : PyData} {b : Bool} (h : (!isNon d) = b) : Opd (fun x y H Q => y = .non ∧ Q (.bl (!decide (x = .non))) H) (dat K d) (dat K .none) (dat K (.bool b)) := fun B H x y Q s hx hy q => by
  refine ⟨dp_non hy, ?_⟩
  rw [dec_non hx, h]
  exact q _ B H (Grow.refl s) (Dp.bl _)
/-! texts -/
theorem opd_cat {i j : Str} (h : i.length + j.length ≤ sizeLine) : Opd (fun x y H Q => ∃ i j, x = .str i ∧ y = .str j ∧ i.length + j.length ≤ sizeLine ∧ Q (.str (i ++ j)) H) (dat K (.str i)) (dat K (.str j)) (dat K (.str (i ++ j))) := fun B H x y Q s hx hy q => by
  cases hx; cases hy
  exact ⟨i, j, rfl, rfl, h, q _ B H (Grow.refl s) (Dp.str _)⟩
theorem opd_sign {c : Nat} {z : Str} {b : Bool} (h : decide (c ∈ z.cps.toList) = b) : Opd (fun x y H Q => ∃ (c : Nat) (z : Str), x = .str ⟨#[c]⟩ ∧ y = .str z ∧ Q (.bl (decide (c ∈ z.cps.toList))) H) (dat K (.str ⟨#[c]⟩)) (dat K (.str z)) (dat K (.bool b)) := fun B H x y Q s hx hy q => by
  cases hx; cases hy
  subst h
  exact ⟨c, z, rfl, rfl, q _ B H (Grow.refl s) (Dp.bl _)⟩
/-! items -/
theorem atI_map {α β : Type} {xs : List α} {ys : List β} {i : Int} {y : β} (hl : xs.length = ys.length) (h : atI ys i = some y) : ∃ j x, ixN xs.length i = some j ∧ xs[j]? = some x ∧ ys[j]? = some y := by
  unfold atI at h
  rw [← hl] at h
  cases e : ixN xs.length i with
  | none => rw [e] at h; cases h
  | some j =>
    rw [e] at h
    have hj : j < ys.length := (List.getElem?_eq_some_iff.mp h).1
    exact ⟨j, xs[j]'(by omega), rfl, List.getElem?_eq_getElem (by omega), h⟩
theorem atI_dps {H : Hp} {vs : List V} {ds : List PyData} {i : Int} {d : PyData} (h : DpAll K H vs ds) (e : atI ds i = some d) : ∃ v, atI vs i = some v ∧ Dp K H v d := by
  obtain ⟨j, v, h1, h2, h3⟩ := atI_map (dps_len h) e
  obtain ⟨v', h4, h5⟩ := dps_get h h3
  rw [h2] at h4
  cases h4
  refine ⟨v, ?_, h5⟩
  unfold atI
  rw [h1]
  exact h2
theorem opd_ixL {ds : List PyData} {i : Int} {d : PyData} (h : atI ds i = some d) : Opd (rIxL K) (dat K (.list ds)) (dat K (.int i)) (dat K d) := fun B H x y Q s hx hy q => by
  obtain ⟨a, xs, rfl, h1, h2⟩ := dp_list hx
  cases hy
  obtain ⟨v, h3, h4⟩ := atI_dps h2 h
  exact ⟨a, xs, i, v, rfl, rfl, same_l s h1, h3, q _ B H (Grow.refl s) h4⟩
theorem opd_ixT {ds : List PyData} {i : Int} {d : PyData} (h : atI ds i = some d) : Opd (rIxT K) (dat K (.tuple ds)) (dat K (.int i)) (dat K d) := fun B H x y Q s hx hy q => by
  obtain ⟨a, xs, rfl, h1, h2⟩ := dp_tup hx
  cases hy
  obtain ⟨v, h3, h4⟩ := atI_dps h2 h
  exact ⟨a, xs, i, v, rfl, rfl, same_t s h1, h3, q _ B H (Grow.refl s) h4⟩
theorem opd_ixS {z : Str} {i : Int} {c : Nat} (hz : z.length ≤ sizeLine) (h : atI z.cps.toList i = some c) : Opd rIxS (dat K (.str z)) (dat K (.int i)) (dat K (.str ⟨#[c]⟩)) := fun B H x y Q s hx hy q => by
  cases hx; cases hy
  exact ⟨z, i, c, rfl, rfl, hz, h, q _ B H (Grow.refl s) (Dp.str _)⟩
/-! in -/
def flatD : PyData → Bool
  | .none => true
  | .bool _ => true
  | .int _ => true
  | .str _ => true
  | _ => false
theorem flat_of {H : Hp} {v : V} {d : PyData} (h : Dp K H v d) (f : flatD d = true) : flatV v = true := by
  cases h <;> first | rfl | cases f
theorem flats_of {H : Hp} : ∀ {vs : List V} {ds : List PyData}, DpAll K H vs ds → ds.all flatD = true → vs.all flatV = true
  | _, _, .nil, _ => rfl
  | _, _, .cons h t, f => by
    rw [List.all_cons, Bool.and_eq_true] at f ⊢
    exact ⟨flat_of h f.1, flats_of t f.2⟩
theorem dps_strs {H : Hp} : ∀ {vs : List V} {xs : List Str}, DpAll K H vs (xs.map .str) → vs = xs.map V.str
  | _, [], h => by cases h; rfl
  | _, x :: xs, h => by
    rw [List.map_cons] at h
    cases h with
    | cons h t => rw [dp_str h, dps_strs t]; rfl
theorem inV_str (x : Str) : ∀ xs : List Str, inV (.str x) (xs.map V.str) = decide (x ∈ xs)
  | [] => rfl
  | y :: xs => by
    have ih := inV_str x xs
    unfold inV at ih ⊢
    rw [List.map_cons, List.any_cons, ih]
    show (y == x || decide (x ∈ xs)) = decide (x ∈ y :: xs)
    by_cases h : y = x
    · subst h; simp
    · have h' : ¬ x = y := fun z => h z.symm
      simp [h, h']
theorem strs_flat : ∀ xs : List Str, (xs.map V.str).all flatV = true
  | [] => rfl
  | _ :: xs => by rw [List.map_cons, List.all_cons, strs_flat xs]; rfl
theorem opd_inL {x : Str} {xs : List Str} {b : Bool} (h : decide (x ∈ xs) = b) : Opd (rIn K false) (dat K (.str x)) (dat K (.list (xs.map .str))) (dat K (.bool b)) := fun B H v y Q s hx hy q => by
  obtain ⟨a, vs, rfl, h1, h2⟩ := dp_list hy
  cases hx
  obtain rfl := dps_strs h2
  refine ⟨a, _, rfl, .inl (same_l s h1), rfl, strs_flat xs, ?_⟩
  rw [inV_str, h]
  exact q _ B H (Grow.refl s) (Dp.bl _)
theorem opd_notInL {x : Str} {xs : List Str} {b : Bool} (h : (!decide (x ∈ xs)) = b) : Opd (rIn K true) (dat K (.str x)) (dat K (.list (xs.map .str))) (dat K (.bool b)) := fun B H v y Q s hx hy q => by
  obtain ⟨a, vs, rfl, h1, h2⟩ := dp_list hy
  cases hx
  obtain rfl := dps_strs h2
  refine ⟨a, _, rfl, .inl (same_l s h1), rfl, strs_flat xs, ?_⟩
  rw [inV_str]
  show Q (.bl (!decide (x ∈ xs))) H
  rw [h]
  exact q _ B H (Grow.refl s) (Dp.bl _)
theorem opd_inT {x : Str} {xs : List Str} {b : Bool} (h : decide (x ∈ xs) = b) : Opd (rIn K false) (dat K (.str x)) (dat K (.tuple (xs.map .str))) (dat K (.bool b)) := fun B H v y Q s hx hy q => by
  obtain ⟨a, vs, rfl, h1, h2⟩ := dp_tup hy
  cases hx
  obtain rfl := dps_strs h2
  refine ⟨a, _, rfl, .inr (same_t s h1), rfl, strs_flat xs, ?_⟩
  rw [inV_str, h]
  exact q _ B H (Grow.refl s) (Dp.bl _)
/-! list + list -/
theorem sq_rd {B H : Hp} {a : Addr} {xs : List V} (s : Same B H) (h : SqL K B a xs) : SqL K H a xs := same_l s h
/-! len -/
theorem cld_lenS {z : Str} (h : z.length ≤ sizeLine) : Cld (fun xs H Q => ∃ x n, xs = [x] ∧ LenV K x H n ∧ Q (.int n) H) [dat K (.str z)] (dat K (.int z.length)) := fun B H vs Q s hv q => by
  cases hv with
  | cons h1 h2 =>
    cases h2
    cases h1
    exact ⟨_, z.length, rfl, ⟨h, rfl⟩, q _ B H (Grow.refl s) (Dp.int _)⟩
theorem cld_lenL {ds : List PyData} : Cld (fun xs H Q => ∃ x n, xs = [x] ∧ LenV K x H n ∧ Q (.int n) H) [dat K (.list ds)] (dat K (.int ds.length)) := fun B H vs Q s hv q => by
  cases hv with
  | cons h1 h2 =>
    cases h2
    obtain ⟨a, xs, rfl, k1, k2⟩ := dp_list h1
    exact ⟨_, ds.length, rfl, .inl ⟨xs, same_l s k1, (dps_len k2).symm⟩, q _ B H (Grow.refl s) (Dp.int _)⟩
theorem cld_lenT {ds : List PyData} : Cld (fun xs H Q => ∃ x n, xs = [x] ∧ LenV K x H n ∧ Q (.int n) H) [dat K (.tuple ds)] (dat K (.int ds.length)) := fun B H vs Q s hv q => by
  cases hv with
  | cons h1 h2 =>
    cases h2
    obtain ⟨a, xs, rfl, k1, k2⟩ := dp_tup h1
    exact ⟨_, ds.length, rfl, .inr ⟨xs, same_t s k1, (dps_len k2).symm⟩, q _ B H (Grow.refl s) (Dp.int _)⟩
/-! isinstance -/
def tyD : PyData → String
  | .none => "NoneType"
  | .bool _ => "bool"
  | .int _ => "int"
  | .str _ => "str"
  | .list _ => "list"
  | .tuple _ => "tuple"
  | .dict _ => "dict"
theorem tyx_of {B H : Hp} {v : V} {d : PyData} (s : Same B H) (h : Dp K B v d) : TyX K H v (.type (tyD d)) := by
  cases h with
  | non => exact .base .non
  | bl b => exact .base (.bl b)
  | int i => exact .base (.int i)
  | str x => exact .base (.str x)
  | lst h1 _ =>
    rcases h1 with (h1 | ⟨o, h1⟩) | ⟨o, its, n, h1, h2, _⟩
    · exact .base (.lst (s _ _ h1))
    · exact .base (.frz (s _ _ h1))
    · exact .kList h1 h2
  | tup h1 _ =>
    rcases h1 with (h1 | ⟨o, h1⟩) | ⟨o, its, n, h1, h2, _⟩
    · exact .base (.tup (s _ _ h1))
    · exact .fTuple (s _ _ h1)
    · exact .kTuple h1 h2
/-- a built-in class as a value -/
def clsR (n : String) : Rp := ⟨fun v _ => v = .ty n, fun _ h => h⟩
theorem cld_isi {d : PyData} {n : String} {b : Bool} (h : kitB (tyD d) n = some b) : Cld (rIsi K) [dat K d, clsR n] (dat K (.bool b)) := fun B H vs Q s hv q => by
  cases hv with
  | cons h1 h2 =>
    cases h2 with
    | cons h2 h3 =>
      cases h3
      obtain rfl : _ = V.ty n := h2
      exact ⟨_, _, _, _, b, rfl, .ty n, tyx_of s h1, kit_ty h, q _ B H (Grow.refl s) (Dp.bl _)⟩
end
section
variable {X : Cx} {a b c e : Expr} {pos p : Pos} {ρ ρ1 ρ2 : Rho} {x : Str}
/-- a built-in class's name -/
theorem d_ty {n : String} (hm : X.mg x = none) (hv : bootBuiltins x = some (.type n)) (hg : Gl X x := by rfl) (hn : x ≠ "__name__" := by decide) (hd : (x == ("__debug__" : Str)) = false := by decide) : PE X (.Name x pos) (tE ρ ρ (clsR n)) := d_c (pe_bltn hg hm hv (v := .ty n) rfl hn hd) fun _ => rfl
/-- isinstance(a, T) of a datum -/
theorem d_isi {d : PyData} (t : String) {n : String} {r : Bool} {p2 : Pos} (zi : X.mg "isinstance" = none) (zc : X.mg x = none) (hv : bootBuiltins x = some (.type n)) (h : kitB t n = some r) (ha : PE X a (tE ρ ρ1 (dat X.K d))) (ht : tyD d = t := by rfl) (hg1 : Gl X "isinstance" := by rfl) (hg : Gl X x := by rfl) (hn : x ≠ "__name__" := by decide) (hd : (x == ("__debug__" : Str)) = false := by decide)
    (he : starEach [a, .Name x p2] X.env = (false, eval a X.env) :: starEach [.Name x p2] X.env := by rfl) (he2 : starEach [.Name x p2] X.env = (false, eval (.Name x p2) X.env) :: starEach [] X.env := by rfl) (hpl : (backTo pos (starEach [.Name x p2] X.env)).any (·.1) = false := by rfl) :
    PE X (.Call (.Name "isinstance" p) [a, .Name x p2] [] pos) (tE ρ ρ1 (dat X.K (.bool r))) :=
  d_callB call_isi (cld_isi (by rw [ht]; exact h)) hg1 zi (by decide +kernel) (a_cons ha (a_cons (d_ty zc hv hg hn hd) a_nil he2) he) (by decide) (by decide) he hpl
end
end Fc
/-! FcL: dicts whose keys are literals (a text and a bool). -/
namespace Fc
open PySem PySem.Spec PyProof.Rows L2

/-- a literal -/
abbrev Lt := Str × Bool
def litD (l : Lt) : PyData := .tuple [.str l.1, .bool l.2]
def litV (l : Lt) : List V := [.str l.1, .bl l.2]
def lk (l : Lt) : List Leaf := [.text l.1, .num (if l.2 = true then 1 else 0)]
theorem lk_inj {a b : Lt} (h : lk a = lk b) : a = b := by
  obtain ⟨a1, a2⟩ := a
  obtain ⟨b1, b2⟩ := b
  unfold lk at h
  injection h with h1 h2
  injection h1 with h1
  injection h2 with h2 _
  injection h2 with h2
  dsimp only at h1 h2
  subst h1
  cases a2 <;> cases b2 <;> first | rfl | (simp at h2)
theorem litV_inj {a b : Lt} (h : litV a = litV b) : a = b := by
  obtain ⟨a1, a2⟩ := a
  obtain ⟨b1, b2⟩ := b
  unfold litV at h
  injection h with h1 h2
  injection h1 with h1
  injection h2 with h2 _
  injection h2 with h2
  dsimp only at h1 h2
  subst h1 h2
  rfl
abbrev Raw := List (Lt × Addr × Value)
def rawL (x : Lt × Addr × Value) : List Leaf × Addr × Value := (lk x.1, x.2)
theorem atKey_raw (k : Lt) : ∀ xs : Raw, atKey (xs.map rawL) (lk k) = atKey xs k
  | [] => rfl
  | x :: xs => by
    have ih := atKey_raw k xs
    unfold atKey at ih ⊢
    rw [List.map_cons, List.find?_cons, List.find?_cons]
    by_cases h : x.1 = k
    · have h' : (rawL x).1 = lk k := by unfold rawL; rw [h]
      rw [decide_eq_true h, decide_eq_true h']
      rfl
    · have h' : ¬ (rawL x).1 = lk k := fun z => h (lk_inj z)
      rw [decide_eq_false h, decide_eq_false h']
      exact ih
theorem storedH_raw (k : Lt) (b : Addr) (u : Value) (xs : Raw) : storedH (xs.map rawL) (lk k) b u = (storedH xs k b u).map rawL := by
  unfold storedH
  rw [atKey_raw]
  split
  · rw [List.map_map, List.map_map]
    refine List.map_congr_left fun x _ => ?_
    show putAt (lk k) u (rawL x) = rawL (putAt k u x)
    unfold putAt
    by_cases h : x.1 = k
    · have h' : (rawL x).1 = lk k := by unfold rawL; rw [h]
      rw [if_pos h, if_pos h']
      rfl
    · have h' : ¬ (rawL x).1 = lk k := fun z => h (lk_inj z)
      rw [if_neg h, if_neg h']
  · rw [List.map_append]
    rfl
/-- the keys' own tuples and the values -/
abbrev KL (K : PySem.W.Frag) (T : Hp) : List (Lt × V) → Raw → Prop := Paired fun p q => p.1 = q.1 ∧ SqT K T q.2.1 (litV p.1) ∧ RelV p.2 q.2.2
section
variable {K : PySem.W.Frag} {T : Hp} {kvs : List (Lt × V)} {xs : Raw}
theorem KL.val (r : KL K T kvs xs) (k : Lt) : RelO (valV kvs k) ((atKey xs k).map (·.2)) := by
  induction r with
  | nil => exact True.intro
  | @cons p q ps qs h t ih =>
    obtain ⟨h1, _, h2⟩ := h
    by_cases e : p.1 = k
    · have e' : q.1 = k := h1.symm.trans e
      have b : atKey (q :: qs) k = some q.2 := by simp [atKey, List.find?_cons, e']
      rw [valV_pos e, b]; exact h2
    · have e' : ¬ q.1 = k := fun z => e (h1.trans z)
      have b : atKey (q :: qs) k = atKey qs k := by simp [atKey, List.find?_cons, e']
      rw [valV_neg e, b]; exact ih
theorem KL.repl (r : KL K T kvs xs) (k : Lt) {y : V} {u : Value} (ry : RelV y u) :
    KL K T (kvs.map fun kv => if kv.1 = k then (kv.1, y) else kv) (xs.map (putAt k u)) := by
  induction r with
  | nil => exact .nil
  | @cons p q ps qs h t ih =>
    rw [List.map_cons, List.map_cons]
    refine .cons ?_ ih
    obtain ⟨h1, h2, h3⟩ := h
    unfold putAt
    by_cases e : p.1 = k
    · rw [if_pos e, if_pos (h1.symm.trans e)]; exact ⟨h1, h2, ry⟩
    · rw [if_neg e, if_neg (fun z => e (h1.trans z))]; exact ⟨h1, h2, h3⟩
theorem KL.put (r : KL K T kvs xs) (k : Lt) {b : Addr} {y : V} {u : Value} (hb : SqT K T b (litV k)) (ry : RelV y u) : KL K T (putK kvs k y) (storedH xs k b u) := by
  have e : (kvs.any fun kv => decide (kv.1 = k)) = (atKey xs k).isSome := by
    rw [valV_any, (r.val k).isSome_eq, Option.isSome_map]
  unfold putK storedH
  rw [e]
  by_cases q : (atKey xs k).isSome = true
  · rw [if_pos q, if_pos q]; exact r.repl k ry
  · rw [if_neg q, if_neg q]; exact Paired.snoc r ⟨rfl, hb, ry⟩
theorem KL.mono {T' : Hp} (s : Same T T') (r : KL K T kvs xs) : KL K T' kvs xs := Paired.mapP r fun _ _ z => ⟨z.1, same_t s z.2.1, z.2.2⟩
theorem KL.keys (r : KL K T kvs xs) : kvs.map (·.1) = xs.map (·.1) := by
  induction r with
  | nil => rfl
  | @cons p q ps qs h t ih => rw [List.map_cons, List.map_cons, h.1, ih]
end
section
variable (P : Program) (w : World)
/-- the dict's object -/
def ldX (a : Addr) (xs : Raw) (ep : Nat) : HO := .ext fun h => ∃ o es, h.get? a = some o ∧ o.ExactDict ∧ o.data = .dict es ep ∧ es.toList = (xs.map rawL).map (entryOfKey (tupleKind (leafKind P w)))
/-- at a stands a dict of literals; T: where the keys' tuples and the values stand -/
structure LAt (K : PySem.W.Frag) (T H : Hp) (a : Addr) (kvs : List (Lt × V)) : Prop where
  lo : (a == sysModules) = false
  sz : kvs.length ≤ sizeLine
  ex : ∃ xs ep, H a = some (ldX P w a xs ep) ∧ (kvs.map (·.1)).Nodup ∧ KL K T kvs xs
end
section
variable {P : Program} {w : World} {K : PySem.W.Frag} {T T' H H' : Hp} {a b : Addr} {kvs : List (Lt × V)}
theorem LAt.mono (x : LAt P w K T H a kvs) (s : Same T T') (e : H' a = H a) : LAt P w K T' H' a kvs :=
  ⟨x.lo, x.sz, let ⟨xs, ep, h1, h2, h3⟩ := x.ex; ⟨xs, ep, by rw [e]; exact h1, h2, h3.mono s⟩⟩
theorem LAt.there (x : LAt P w K T H a kvs) : H a ≠ none := let ⟨_, _, h1, _⟩ := x.ex; some_ne h1
theorem LAt.up (x : LAt P w K T H a kvs) (s : Same T T') (e : Same H H') : LAt P w K T' H' a kvs := by
  obtain ⟨xs, ep, h1, h2, h3⟩ := x.ex
  exact ⟨x.lo, x.sz, xs, ep, e _ _ h1, h2, h3.mono s⟩
theorem map_nodup {α β : Type} {f : α → β} (hf : ∀ a b, f a = f b → a = b) : ∀ {l : List α}, l.Nodup → (l.map f).Nodup
  | [], _ => List.nodup_nil
  | x :: l, h => by
    rw [List.map_cons]
    obtain ⟨h1, h2⟩ := List.nodup_cons.mp h
    refine List.nodup_cons.mpr ⟨fun m => ?_, map_nodup hf h2⟩
    obtain ⟨y, hy, e⟩ := List.mem_map.mp m
    rw [hf _ _ e] at hy
    exact h1 hy
end
section
variable {X : Cx} {pins : List (Addr × Obj)} {σ : L2.St} {H : Hp} {s : Shared} {a b : Addr} {kvs : List (Lt × V)} {k : Lt} {y v : V} {u r : Value} {A : Around} {E : Value → Shared → Prop}
theorem lit_key (I : Inv X pins σ H s) (h : SqT X.K H b (litV k)) : (tupleKind (leafKind X.prog X.w)).is s.heap (lk k) b := by
  obtain ⟨its, rv, ⟨o, h1, h2, n, h3⟩, _⟩ := I.tuple h
  refine ⟨o, its.toArray, n, h1, h2, h3, ?_⟩
  unfold litV at rv
  cases rv with
  | cons r1 r2 =>
    cases r2 with
    | cons r2 r3 =>
      cases r3
      obtain ⟨t, rfl⟩ := r1
      obtain rfl : _ = Value.bool k.2 := r2
      show ItemsAre (leafKind X.prog X.w) (lk k) [_, _]
      refine .cons (leaf_str _ _) (.cons ?_ .nil)
      cases k.2 with
      | true => exact leaf_true
      | false => exact leaf_false
theorem dict_of {xs : Raw} {ep : Nat} (I : Inv X pins σ H s) (h1 : H a = some (ldX X.prog X.w a xs ep)) (h2 : (kvs.map (·.1)).Nodup) (h3 : KL X.K H kvs xs) : s.heap.DictOfH (tupleKind (leafKind X.prog X.w)) a (xs.map rawL) := by
  obtain ⟨⟨o, es, g1, g2, g3, g4⟩, _, _⟩ := (show ObjOk X.prog X.w H s.heap a (ldX X.prog X.w a xs ep) from I.hok a _ h1)
  refine ⟨o, es, ep, g1, g2, g3, g4, fun z hz => ?_, ?_⟩
  · obtain ⟨q, hq, rfl⟩ := List.mem_map.mp hz
    have all : ∀ {l : List (Lt × V)} {m : Raw}, KL X.K H l m → ∀ x ∈ m, (tupleKind (leafKind X.prog X.w)).is s.heap (lk x.1) x.2.1 := by
      intro l m q
      induction q with
      | nil => intro x hx; exact nomatch hx
      | @cons p q ps qs hq t ih =>
        intro x hx
        rcases List.mem_cons.mp hx with e | hx
        · subst e
          exact lit_key I (by rw [← hq.1]; exact hq.2.1)
        · exact ih x hx
    exact all h3 q hq
  · have e : ((xs.map rawL).map fun (x : List Leaf × Addr × Value) => x.1) = (xs.map (·.1)).map lk := by
      rw [List.map_map, List.map_map]
      rfl
    rw [e, ← h3.keys]
    exact map_nodup (fun _ _ => lk_inj) h2
theorem LAt.dict (I : Inv X pins σ H s) (x : LAt X.prog X.w X.K H H a kvs) : ∃ xs ep, H a = some (ldX X.prog X.w a xs ep) ∧ KL X.K H kvs xs ∧ s.heap.DictOfH (tupleKind (leafKind X.prog X.w)) a (xs.map rawL) :=
  let ⟨xs, ep, h1, h2, h3⟩ := x.ex
  ⟨xs, ep, h1, h3, dict_of I h1 h2 h3⟩
/-- d[k], there -/
theorem l_getItem {Q : Value → Shared → Prop} (hu : A.units + 1 < cLine) (I : Inv X pins σ H s) (x : LAt X.prog X.w X.K H H a kvs) (hk : SqT X.K H b (litV k)) (l : valV kvs k = some v) (h : ∀ w' s', Inv X pins σ H s' → RelV v w' → Q w' s') :
    wpAny (model X.prog X.w) A (getItem (.ref a) (.ref b)) Q E s := by
  obtain ⟨xs, ep, _, rel, dd⟩ := x.dict I
  obtain ⟨w', hw, rw'⟩ := RelO.some_of (v := v) (o := (atKey xs k).map (·.2)) (by rw [← l]; exact rel.val k)
  obtain ⟨p, hp, hp2⟩ := Option.map_eq_some_iff.mp hw
  refine wpAny_getItem_heap (tupleKind_room_in1 hu) (lit_key I hk) dd (by rw [atKey_raw]; exact hp) ?_
  rw [hp2]
  exact h w' _ (I.tok _) rw'
theorem l_in {Q : Value → Shared → Prop} (hu : A.units + 1 < cLine) (I : Inv X pins σ H s) (x : LAt X.prog X.w X.K H H a kvs) (hk : SqT X.K H b (litV k)) (h : ∀ s', Inv X pins σ H s' → Q (.bool (valV kvs k).isSome) s') :
    wpAny (model X.prog X.w) A (compareOp .In (.ref b) (.ref a)) Q E s := by
  obtain ⟨xs, ep, _, rel, dd⟩ := x.dict I
  refine wpAny_in_heap (tupleKind_room_in1 hu) (lit_key I hk) x.lo dd ?_
  have q := (rel.val k).isSome_eq
  rw [Option.isSome_map] at q
  rw [atKey_raw, ← q]
  exact h _ (I.tok _)
theorem l_notIn {Q : Value → Shared → Prop} (hu : A.units + 1 < cLine) (I : Inv X pins σ H s) (x : LAt X.prog X.w X.K H H a kvs) (hk : SqT X.K H b (litV k)) (h : ∀ s', Inv X pins σ H s' → Q (.bool (!(valV kvs k).isSome)) s') :
    wpAny (model X.prog X.w) A (compareOp .NotIn (.ref b) (.ref a)) Q E s := by
  obtain ⟨xs, ep, _, rel, dd⟩ := x.dict I
  refine wpAny_notIn_heap (tupleKind_room_in1 hu) (lit_key I hk) x.lo dd ?_
  have q := (rel.val k).isSome_eq
  rw [Option.isSome_map] at q
  rw [atKey_raw, ← q]
  exact h _ (I.tok _)
/-- d.get(k, x) -/
theorem l_get2 {d : V} {Q : Value → Shared → Prop} (hu : A.units + 1 < cLine) (I : Inv X pins σ H s) (x : LAt X.prog X.w X.K H H a kvs) (hk : SqT X.K H b (litV k)) (rd : RelV d r) (h : ∀ w' s', Inv X pins σ H s' → RelV ((valV kvs k).getD d) w' → Q w' s') :
    wpAny (model X.prog X.w) A (call (.builtin "dict.get") [.ref a, .ref b, r]) Q E s := by
  obtain ⟨xs, ep, _, rel, dd⟩ := x.dict I
  refine call_meetsIn PySem.F.slot_dict_get dd.typeIs PySem.F.entry_dict_get (PySem.F.args_dict_get_3 _ _ _) (meetsH_dict_get_default (tupleKind (leafKind X.prog X.w)) a b x.lo r) ⟨tupleKind_room_in1 hu, lk k, _, lit_key I hk, dd, h _ _ (I.tok _) ?_⟩
  rw [atKey_raw]
  exact (rel.val k).getD rd
theorem nodup_put {kvs : List (Lt × V)} {k : Lt} {v : V} (h : (kvs.map (·.1)).Nodup) : ((putK kvs k v).map (·.1)).Nodup := by
  by_cases q : (kvs.any fun kv => decide (kv.1 = k)) = true
  · unfold putK
    rw [if_pos q, List.map_map]
    have e : ((fun (x : Lt × V) => x.1) ∘ fun kv => if kv.1 = k then (kv.1, v) else kv) = fun x => x.1 := by
      funext x
      show (if x.1 = k then (x.1, v) else x).1 = x.1
      split <;> rfl
    rw [e]
    exact h
  · have hn : valV kvs k = none := by
      have := valV_any k kvs
      cases e : valV kvs k with
      | none => rfl
      | some x => rw [e] at this; rw [this] at q; exact absurd rfl q
    rw [putK_new v hn, List.map_append]
    refine nd_snoc h fun m => ?_
    obtain ⟨x, hx, e⟩ := List.mem_map.mp m
    exact q (List.any_eq_true.mpr ⟨x, hx, decide_eq_true e⟩)
/-- d[k] = v; T: where the keys' tuples stand -/
theorem l_setItem {T : Hp} {Q : Unit → Shared → Prop} (hu : A.units + 1 < cLine) (I : Inv X pins σ H s) (sT : Same T H) (x : LAt X.prog X.w X.K T H a kvs) (hk : SqT X.K T b (litV k)) (hz : kvs.length < sizeLine) (rv : RelV v r)
    (h : ∀ s' o, Inv X pins σ (upd H a o) s' → LAt X.prog X.w X.K T (upd H a o) a (putK kvs k v) → Q () s') : wpAny (model X.prog X.w) A (setItem (.ref a) (.ref b) r) Q E s := by
  obtain ⟨xs, ep, hH, hnd, rel⟩ := x.ex
  have dd := dict_of I hH hnd (rel.mono sT)
  have hz' : (xs.map rawL).length ≤ sizeLine := by rw [List.length_map, ← Paired.length rel]; exact x.sz
  have hl : (putK kvs k v).length ≤ sizeLine := by have := length_putK kvs k v; omega
  refine wpAny_setItem_heap (hsz := hz') (tupleKind_room_in1 hu) (lit_key I (same_t sT hk)) dd fun h' dd' hs => ?_
  obtain ⟨q, es, ep', hq, h2, h3, h4, _, h5⟩ := dd'
  rw [storedH_raw] at h4
  refine h _ (ldX X.prog X.w a (storedH xs k b r) ep') (d_write I (by rw [hH]; exact True.intro) hs ⟨q, hq⟩ ⟨⟨q, es, hq, h2, h3, h4⟩, ⟨q, hq⟩, fun h1 h2 ⟨o, es, e1, e2⟩ k => ⟨o, es, k _ e1, e2⟩⟩) ?_
  exact ⟨x.lo, hl, _, _, upd_same, nodup_put hnd, rel.put k hk rv⟩
/-- {} -/
theorem l_new (I : Inv X pins σ H s) {Q : Value → Shared → Prop} (h : ∀ p o s', H p = none → Inv X pins σ (upd H p o) s' → (∀ T, LAt X.prog X.w X.K T (upd H p o) p []) → Q (.ref p) s') :
    wpAny (model X.prog X.w) A newDict Q E s := by
  refine wpAny_newObj_type ?_
  have hp := I.fresh
  refine h s.heap.objs.size (ldX X.prog X.w s.heap.objs.size [] 0) _ hp (I.laid (t' := s.toks) (fun b o e => Heap.get?_push_of_some _ e) (Nat.le_refl _) ⟨⟨_, #[], Heap.get?_push_size _ rfl, ⟨rfl, rfl, rfl⟩, rfl, rfl⟩, ⟨_, Heap.get?_push_size _ rfl⟩, fun h1 h2 ⟨o, es, e1, e2⟩ k => ⟨o, es, k _ e1, e2⟩⟩) fun T => ?_
  exact ⟨beq_eq_false_iff_ne.mpr (Ne.symm (Nat.ne_of_lt I.big)), Nat.zero_le _, [], 0, upd_same, List.nodup_nil, .nil⟩
end
end Fc
/-! FcM: dict comprehensions whose keys are literals, with one and with two clauses. -/
namespace Fc
open PySem PySem.Spec PyProof.Rows L2

/-- D[k] = v by a comprehension -/
theorem l_dictSet {X : Cx} {pins : List (Addr × Obj)} {σ : L2.St} {T H : Hp} {s : Shared} {a b : Addr} {kvs : List (Lt × V)} {k : Lt} {v : V} {r : Value} {A : Around} {E : Value → Shared → Prop} {Q : Unit → Shared → Prop} (hu : A.units < cLine) (I : Inv X pins σ H s) (sT : Same T H) (x : LAt X.prog X.w X.K T H a kvs) (hk : SqT X.K T b (litV k)) (hz : kvs.length < sizeLine) (rv : RelV v r)
    (h : ∀ s' o, Inv X pins σ (upd H a o) s' → LAt X.prog X.w X.K T (upd H a o) a (putK kvs k v) → Q () s') : wpAny (model X.prog X.w) A (dictSet a (.ref b) r) Q E s := by
  obtain ⟨xs, ep, hH, hnd, rel⟩ := x.ex
  have dd := dict_of I hH hnd (rel.mono sT)
  have hz' : (xs.map rawL).length ≤ sizeLine := by rw [List.length_map, ← Paired.length rel]; exact x.sz
  have hl : (putK kvs k v).length ≤ sizeLine := by have := length_putK kvs k v; omega
  refine wpAny_dictSet_heap (hsz := hz') hu (lit_key I (same_t sT hk)) dd fun h' dd' hs => ?_
  obtain ⟨q, es, ep', hq, h2, h3, h4, _, h5⟩ := dd'
  rw [storedH_raw] at h4
  refine h _ (ldX X.prog X.w a (storedH xs k b r) ep') (d_write I (by rw [hH]; exact True.intro) hs ⟨q, hq⟩ ⟨⟨q, es, hq, h2, h3, h4⟩, ⟨q, hq⟩, fun h1 h2 ⟨o, es, e1, e2⟩ k => ⟨o, es, k _ e1, e2⟩⟩) ?_
  exact ⟨x.lo, hl, _, _, upd_same, nodup_put hnd, rel.put k hk rv⟩

/-- the store of a key and a value at D, then Nx -/
def tKv (P : Program) (w : World) (K : PySem.W.Frag) (D : Addr) (tk tv : TE) (Nx : Hp → Prop) : L2.St → Hp → Prop := fun σ H => tk σ H fun y H1 => tv σ H1 fun z H2 =>
  ∃ T kvs k b, Same T H2 ∧ y = .ref b ∧ SqT K T b (litV k) ∧ LAt P w K T H2 D kvs ∧ kvs.length < sizeLine ∧ ∀ o, LAt P w K T (upd H2 D o) D (putK kvs k z) → Nx (upd H2 D o)
/-- {k: v for tg in iter if ..} -/
def tDl (P : Program) (w : World) (K : PySem.W.Frag) (wi : TI) (g : TG) (tt : TT) (tk tv : TE) (vs : List Nat) : TE := fun σ H Q => wi σ H fun J H1 => ∀ D o0, H1 D = none → (∀ T, LAt P w K T (upd H1 D o0) D []) → ∃ W : Nat → Nat → Hp → Prop, (∃ m, W 0 m (upd H1 D o0)) ∧ ∀ i m H, W i m H →
  (J.stop i H ∧ Q (.ref D) H) ∨ (J.go i H ∧ ∃ Nx : Hp → Prop, (∀ H', Nx H' → ∃ m', m' < m ∧ W (i + 1) m' H') ∧ ∀ x H', J.yld i H x H' → g x (wipe σ vs) H' fun σ2 H2 => wipe σ2 vs = wipe σ vs ∧ tt σ2 H2 fun b H3 =>
    if b = true then tKv P w K D tk tv Nx σ2 H3 else Nx H3)
/-- {k: v for tg in iter if .. for tg1 in iter1 if ..} -/
def tDl2 (P : Program) (w : World) (K : PySem.W.Frag) (wi : TI) (g : TG) (tt : TT) (wi1 : TI) (g1 : TG) (tt1 : TT) (tk tv : TE) (vs vs1 : List Nat) : TE := fun σ H Q => wi σ H fun J H1 => ∀ D o0, H1 D = none → (∀ T, LAt P w K T (upd H1 D o0) D []) → ∃ W : Nat → Nat → Hp → Prop, (∃ m, W 0 m (upd H1 D o0)) ∧ ∀ i m H, W i m H →
  (J.stop i H ∧ Q (.ref D) H) ∨ (J.go i H ∧ ∃ Nx : Hp → Prop, (∀ H', Nx H' → ∃ m', m' < m ∧ W (i + 1) m' H') ∧ ∀ x H', J.yld i H x H' → g x (wipe σ vs) H' fun σ2 H2 => wipe σ2 vs = wipe σ vs ∧ tt σ2 H2 fun b H3 =>
    if b = true then wi1 σ2 H3 fun J1 H4 => ∃ W1 : Nat → Nat → Hp → Prop, (∃ m, W1 0 m H4) ∧ ∀ j k H, W1 j k H →
      (J1.stop j H ∧ Nx H) ∨ (J1.go j H ∧ ∃ Nx1 : Hp → Prop, (∀ H', Nx1 H' → ∃ k', k' < k ∧ W1 (j + 1) k' H') ∧ ∀ x H', J1.yld j H x H' → g1 x (wipe σ2 vs1) H' fun σ3 H5 => wipe σ3 vs1 = wipe σ2 vs1 ∧ tt1 σ3 H5 fun b H6 =>
        if b = true then tKv P w K D tk tv Nx1 σ3 H6 else Nx1 H6)
    else Nx H3)

section
variable {X : Cx}
/-- the store, run -/
theorem kv_run {Y : Cx} {pins : List (Addr × Obj)} {σ : L2.St} {H : Hp} {s : Shared} {kx vx : Expr} {tk tv : TE} {D : Addr} {Nx : Hp → Prop} {Qe : Unit → Shared → Prop} {E : Value → Shared → Prop} (hu : Y.A.units < cLine) (hx : Y.xe = fun _ _ => False) (I : Inv Y pins σ H s) (hk : PE Y kx tk) (hv : PE Y vx tv) (h : tKv Y.prog Y.w Y.K D tk tv Nx σ H)
    (q : ∀ s' H', Inv Y pins σ H' s' → Nx H' → Qe () s') :
    wpAny (model Y.prog Y.w) Y.A (eval kx Y.env) (fun kv s₄ => wpAny (model Y.prog Y.w) Y.A (eval vx Y.env) (fun vv s₅ => wpAny (model Y.prog Y.w) Y.A (dictSet D kv vv) Qe E s₅) E s₄) E s := by
  have a := hk.run pins s σ H _ I h
  rw [hx] at a
  refine thnF a fun kv s1 ⟨y, H1, I1, r1, h1⟩ => ?_
  have b := hv.run pins s1 σ H1 _ I1 h1
  rw [hx] at b
  refine thnF b fun vv s2 ⟨z, H2, I2, r2, T, kvs, k, bk, sT, ey, ht, hl, hz, nx⟩ => ?_
  subst ey
  obtain rfl : kv = Value.ref bk := r1
  exact l_dictSet hu I2 sT hl ht hz r2 fun s3 o I3 hd => q s3 _ I3 (nx o hd)
/-- the same under the kind of iterator's pins: what a turn leaves -/
theorem turn_pins {Y : Cx} {pins : List (Addr × Obj)} {σ τ : L2.St} {H : Hp} {s : Shared} {fp : List Addr} {h7 : Heap} {tn : Nat → Heap → Prop} {i : Nat} (keep : ∀ (i : Nat) (h h' : Heap), tn i h → (∀ b ∈ fp, ∀ o, h.get? b = some o → h'.get? b = some o) → tn i h') (obj : ∀ b ∈ fp, ∃ o, h7.get? b = some o) (st : tn i h7) (I : Inv Y (pins ++ pinsAt fp h7) σ H s)
    (hl : τ.length = σ.length) (hk : ∀ (j : Nat) v, τ[j]? = some (some v) → σ[j]? = some (some v)) : Inv Y pins τ H s ∧ tn i s.heap ∧ ∀ b ∈ fp, H b = none := by
  have pin : ∀ b ∈ fp, ∀ o, h7.get? b = some o → s.heap.get? b = some o ∧ H b = none := fun b hb o e =>
    let z := I.pin (b, o) (List.mem_append_right _ (List.mem_append_right _ (mem_pinsAt hb e)))
    ⟨z.1, z.2.1⟩
  refine ⟨I.unpinned.weak hl hk, keep _ _ _ st fun b hb o e => (pin b hb o e).1, fun b hb => ?_⟩
  obtain ⟨o, e⟩ := obj b hb
  exact (pin b hb o e).2
/-- what a comprehension's start gives: the new dict, the block, the way back -/
theorem dl_core {pins : List (Addr × Obj)} {s : Shared} {σ : L2.St} {H : Hp} {Q : VK} {kx vx tg iter : Expr} {more : List Comprehension} {ifs : List Expr} {scope : Scope} {own : List (Str × Nat)} {pos pos' : Pos} {wi : TI} {R : It → Hp → Prop} {use : Option (Value → Sem Unit)} {Qf : Value → Shared → Prop}
    (hc : X.calm = true) (hN : X.N.Nodup) (I : Inv X pins σ H s) (hi : PI X tg iter wi) (ok : BlkOk X.N X.env.scope scope own) (hs : ∀ x, foldedSetIterable iter X.env x = pure x) (hna : firstAsync (⟨tg, iter, ifs, 0⟩ :: more) = false) (h : wi σ H R)
    (body : ∀ (s3 s4 : Shared) (H2 : Hp) (D it : Addr) (o0 : HO) (fp : List Addr) (tn : Nat → Heap → Prop) (J : It) (cl : List (Str × Addr)) (C : Addr), H2 D = none → (∀ T, LAt X.prog X.w X.K T (upd H2 D o0) D []) → R J H2 → Inv X pins σ (upd H2 D o0) s3 → (∀ b ∈ fp, FpOk X pins (upd H2 D o0) b) → C = s3.heap.objs.size →
      Inv (X.blk s3 (upd H2 D o0) scope (compEnvC scope cl C X.env) fp) [] (wipe σ (own.map (·.2))) (upd H2 D o0) s4 → tn 0 s4.heap → Turn X.prog X.w X.K tg J fp it tn →
      codeAny (model X.prog X.w) X.A (.compLoop (.DictComp kx vx (⟨tg, iter, ifs, 0⟩ :: more) scope pos) 0 (.ref it) (.ref D) (compEnvC scope cl C X.env)) (fun r s6 => r = .ok .next ∧ ∃ H6, Inv (X.blk s3 (upd H2 D o0) scope (compEnvC scope cl C X.env) fp) [] (wipe σ (own.map (·.2))) H6 s6 ∧ Q (.ref D) H6) s4)
    (hRR : ∀ D C s' m H', Inv X pins σ H' s' → Q (.ref D) H' → s'.heap.Ns C m → FpOk X pins H' C → compPost (model X.prog X.w) X.A X.xe use Qf (.ref D) C (.ok .next) s') :
    wpAny (model X.prog X.w) X.A (comprehension (.DictComp kx vx (⟨tg, iter, ifs, 0⟩ :: more) scope pos) scope X.env pos' newDict false (eval iter X.env) use) Qf X.xe s := by
  have hfree : ∀ y ∈ scope.names, y.2 = .free → ∃ c, X.env.cells.lookup y.1 = some c := fun y hy e => (ok.free y hy e).elim (fun k => I.ok.has _ (.inl k)) fun k => I.ok.has _ (.inr k)
  refine wpAny_comprehension_free (use := use) rfl hs (closure_ok hfree) ok.kind (fun y hy e => by rw [ok.uniq y hy, e]) (thn (hi.run pins s σ H _ I h) fun xv s1 hx => thn hx fun itv s2 h2 => ?_)
  obtain ⟨it, fp, tn, J, H2, e, I2, T, st2, f2, q⟩ := h2
  subst e
  have I2' := I2.pinned f2 (T.obj _ _ st2)
  refine l_new I2' fun D o0 s3 hDn I3' hnew => newEnv_comp ?_
  have obj2 : ∀ b ∈ fp, ∃ o, s2.heap.get? b = some o := fun b hb => let ⟨o, e, _⟩ := T.obj _ _ st2 b hb; ⟨o, e⟩
  obtain ⟨I3, st3, n3⟩ := turn_pins T.keep obj2 st2 I3' rfl (fun _ _ z => z)
  have f3 : ∀ b ∈ fp, FpOk X pins (upd H2 D o0) b ∧ b < s3.heap.objs.size := fun b hb => by
    refine ⟨⟨n3 b hb, (f2 b hb).2⟩, ?_⟩
    obtain ⟨o, e, _⟩ := T.obj _ _ st3 b hb
    exact Heap.lt_size e
  have I4 := block_start I3 ok hN f3
  have st4 : tn 0 (pushCells (s3.heap.push { cls := .type "dict", data := .dict #[] }) scope.names) := T.keep _ _ _ st3 fun b _ o e => pushCells_keeps _ _ _ _ (Heap.get?_push_of_some _ e)
  have lp := body s3 _ H2 D it o0 fp tn J _ _ hDn hnew q I3 (fun b hb => (f3 b hb).1) rfl I4 st4 T
  have loop := codeAny_mono lp (R' := compPost (model X.prog X.w) X.A X.xe use Qf (.ref D) s3.heap.objs.size) fun r s6 ⟨hr, H6, I6, qq⟩ => by
    subst hr
    have I7 : Inv X pins σ H6 s6 := I3.call' (ch := fp) I6.os I6.base I6.hok I6.bare fun b hb => ⟨(f3 b hb).1.2.2.2.1, (f3 b hb).1.2.1, (f3 b hb).1.2.2.2.2.1, (f3 b hb).1.2.2.2.2.2⟩
    obtain ⟨m, hn, _⟩ := I6.loc
    exact hRR D s3.heap.objs.size s6 m H6 I7 qq hn (I3.fpOk (Nat.le_refl _) I6.free)
  exact codeAny_compStart_dict loop (T.self X.A 0 _ _ _ st4 loop)
/-- the block's iterators may turn -/
theorem blk_fp {s3 : Shared} {H3 : Hp} {scope : Scope} {ce : PySem.Env} {fp : List Addr} {σ' : L2.St} {H' : Hp} {s' : Shared} (I' : Inv (X.blk s3 H3 scope ce fp) [] σ' H' s') (hn : ∀ b ∈ fp, H' b = none) : ∀ b ∈ fp, FpOk (X.blk s3 H3 scope ce fp) [] H' b := fun b hb =>
  ⟨hn b hb, (I'.ok.exf b hb).1, I'.ok.exfs b hb, .inl hb, fun x c e => (I'.ok.exf b hb).2 x c e, fun p hp => absurd (show p ∈ ([] : List (Addr × Obj)) ++ [] from hp) (by simp)⟩
theorem dl_start {pins : List (Addr × Obj)} {s : Shared} {σ : L2.St} {H : Hp} {Q : VK} {kx vx tg iter : Expr} {ifs : List Expr} {scope : Scope} {own : List (Str × Nat)} {pos pos' : Pos} {wi : TI} {g : TG} {tt : TT} {tk tv : TE} {use : Option (Value → Sem Unit)} {Qf : Value → Shared → Prop}
    (hc : X.calm = true) (hu : X.A.units < cLine) (hN : X.N.Nodup) (I : Inv X pins σ H s) (hi : PI X tg iter wi) (ok : BlkOk X.N X.env.scope scope own)
    (hg : ∀ (s : Shared) (H : Hp) (C : Addr) (cl : List (Str × Addr)) (fp : List Addr), PG (X.blk s H scope (compEnvC scope cl C X.env) fp) tg g) (ht : ∀ (s : Shared) (H : Hp) (C : Addr) (cl : List (Str × Addr)) (fp : List Addr), PTs (X.blk s H scope (compEnvC scope cl C X.env) fp) ifs tt)
    (hk : ∀ (s : Shared) (H : Hp) (C : Addr) (cl : List (Str × Addr)) (fp : List Addr), PE (X.blk s H scope (compEnvC scope cl C X.env) fp) kx tk) (he : ∀ (s : Shared) (H : Hp) (C : Addr) (cl : List (Str × Addr)) (fp : List Addr), PE (X.blk s H scope (compEnvC scope cl C X.env) fp) vx tv)
    (hs : ∀ x, foldedSetIterable iter X.env x = pure x) (h : tDl X.prog X.w X.K wi g tt tk tv (own.map (·.2)) σ H Q)
    (hRR : ∀ D C s' m H', Inv X pins σ H' s' → Q (.ref D) H' → s'.heap.Ns C m → FpOk X pins H' C → compPost (model X.prog X.w) X.A X.xe use Qf (.ref D) C (.ok .next) s') :
    wpAny (model X.prog X.w) X.A (comprehension (.DictComp kx vx [⟨tg, iter, ifs, 0⟩] scope pos) scope X.env pos' newDict false (eval iter X.env) use) Qf X.xe s := by
  refine dl_core (more := []) hc hN I hi ok hs rfl h (fun s3 s4 H2 D it o0 fp tn J cl C hD hnew q I3 f3 hC I4 st4 T => ?_) hRR
  obtain ⟨W, ⟨m0, w0⟩, turn⟩ := q D o0 hD hnew
  have pg := hg s3 (upd H2 D o0) C cl fp
  have pt := ht s3 (upd H2 D o0) C cl fp
  have pk := hk s3 (upd H2 D o0) C cl fp
  have pe := he s3 (upd H2 D o0) C cl fp
  generalize compEnvC scope cl C X.env = ce at I4 pg pt pk pe ⊢
  refine compLoop_anyD (fun n s' => ∃ i H', Inv (X.blk s3 (upd H2 D o0) scope ce fp) [] (wipe σ (own.map (·.2))) H' s' ∧ tn i s'.heap ∧ (∀ b ∈ fp, H' b = none) ∧ W i n H') ?_ m0 ⟨0, _, I4, st4, fun b hb => (f3 b hb).1, w0⟩
  rintro n s5 ⟨i, H5, I5, st5, n5, w5⟩
  rcases turn i n H5 w5 with ⟨stop, qq⟩ | ⟨go, Nx, hNx, step⟩
  · refine thnF (T.done (X.blk s3 (upd H2 D o0) scope ce fp) rfl rfl rfl hc i [] s5 _ H5 (fun _ _ => False) I5 (blk_fp I5 n5) st5 stop) fun r s6 ⟨hr, I6⟩ => ?_
    subst hr
    exact ⟨rfl, H5, I6, qq⟩
  · refine thnF (T.item (X.blk s3 (upd H2 D o0) scope ce fp) rfl rfl rfl hc i [] s5 _ H5 (fun _ _ => False) I5 (blk_fp I5 n5) st5 go) fun r s6 ⟨u, hr, h6⟩ => ?_
    subst hr
    refine thnF h6 fun _ s7 ⟨x, H7, I7, r7, y7, st7, n7⟩ => ?_
    have I7' := I7.pinned (blk_fp I7 n7) (T.obj _ _ st7)
    refine thnF (pg.run _ s7 _ H7 x u _ I7' r7 (step x H7 y7)) fun _ s8 ⟨σ8, H8, I8, hw8, q8⟩ => ?_
    refine thnF (pt.run _ s8 σ8 H8 _ I8 q8) fun b s9 ⟨H9, I9, q9⟩ => ?_
    have fin : ∀ {s' : Shared} {H' : Hp}, Inv (X.blk s3 (upd H2 D o0) scope ce fp) ([] ++ pinsAt fp s7.heap) σ8 H' s' → Nx H' → ∃ m, m < n ∧ ∃ i H', Inv (X.blk s3 (upd H2 D o0) scope ce fp) [] (wipe σ (own.map (·.2))) H' s' ∧ tn i s'.heap ∧ (∀ b ∈ fp, H' b = none) ∧ W i m H' := fun {s' H'} I' nx => by
      obtain ⟨m', hm, w'⟩ := hNx H' nx
      obtain ⟨J1, J2, J3⟩ := turn_pins (τ := wipe σ (own.map (·.2))) T.keep (fun b hb => let ⟨o, e, _⟩ := T.obj _ _ st7 b hb; ⟨o, e⟩) st7 I' (by rw [← hw8, wipe_length]) (fun j v e => by rw [← hw8] at e; exact (wipe_some e).1)
      exact ⟨m', hm, i + 1, H', J1, J2, J3, w'⟩
    cases b with
    | false =>
      simp only [Bool.false_eq_true, if_false] at q9 ⊢
      exact fin I9 q9
    | true =>
      simp only [if_true] at q9 ⊢
      exact kv_run (Y := X.blk s3 (upd H2 D o0) scope ce fp) hu rfl I9 pk pe q9 fun s' H' I' nx => fin I' nx
end
/-! ### two clauses -/
theorem dcTurn_out (kx vx t0 i0 t1 i1 : Expr) (ifs0 ifs1 : List Expr) (scope : Scope) (pos : Pos) (it acc : Value) (env : PySem.Env) :
    compTurn (.DictComp kx vx [⟨t0, i0, ifs0, 0⟩, ⟨t1, i1, ifs1, 0⟩] scope pos) 0 it acc env = (do
      standAt i0.pos
      match ← pyNext it with
      | none => pure (.done .next)
      | some v =>
        letOwnedTupleGo t0 it v
        assign t0 env v
        let mut ok := true
        for c in ifs0 do
          if ok then ok ← isTrue c env (eval c env)
        if ok then
          let x ← eval i1 env
          standAt i1.pos
          let x ← foldedSetIterable i1 env x
          let _ ← runOwn (.compStart (.DictComp kx vx [⟨t0, i0, ifs0, 0⟩, ⟨t1, i1, ifs1, 0⟩] scope pos) 1 (← holding [x] (pyIter x)) acc env) env
        again (.compLoop (.DictComp kx vx [⟨t0, i0, ifs0, 0⟩, ⟨t1, i1, ifs1, 0⟩] scope pos) 0 it acc env)) := by rfl
theorem dcTurn_in (kx vx t0 i0 t1 i1 : Expr) (ifs0 ifs1 : List Expr) (scope : Scope) (pos : Pos) (it : Value) (D : Addr) (env : PySem.Env) :
    compTurn (.DictComp kx vx [⟨t0, i0, ifs0, 0⟩, ⟨t1, i1, ifs1, 0⟩] scope pos) 1 it (.ref D) env = (do
      standAt i1.pos
      match ← pyNext it with
      | none => pure (.done .next)
      | some v =>
        letOwnedTupleGo t1 it v
        assign t1 env v
        let mut ok := true
        for c in ifs1 do
          if ok then ok ← isTrue c env (eval c env)
        if ok then
          (do
            let kv ← eval kx env
            let vv ← holding [kv] (eval vx env)
            standAt { kx.pos with endLine := vx.pos.endLine, endCol := vx.pos.endCol }
            holding [kv, vv] (dictSet D kv vv))
        again (.compLoop (.DictComp kx vx [⟨t0, i0, ifs0, 0⟩, ⟨t1, i1, ifs1, 0⟩] scope pos) 1 it (.ref D) env)) := by rfl
section
variable {prog : Program} {w : World} {A : Around} {R : Result → Shared → Prop} {s : Shared} {kx vx t0 i0 t1 i1 : Expr} {ifs0 ifs1 : List Expr} {scope : Scope} {pos : Pos} {it acc : Value} {D : Addr} {env : PySem.Env}
/-- the outer clause's turns: J is what holds between them -/
theorem dcLoop_out (hs : ∀ x, foldedSetIterable i1 env x = pure x) (J : Nat → Shared → Prop)
    (turn : ∀ n s, J n s → wpAny (model prog w) A (pyNext it) (fun r sa => match r with
      | none => R (.ok .next) sa
      | some v => wpAny (model prog w) A (letOwnedTupleGo t0 it v) (fun _ sb => wpAny (model prog w) A (assign t0 env v) (fun _ sc =>
          wpAny (model prog w) A (forIn ifs0 true fun c r => if r = true then do let ok ← isTrue c env (eval c env); pure (ForInStep.yield ok) else pure (ForInStep.yield r)) (fun ok sd =>
            if ok = true then wpAny (model prog w) A (eval i1 env) (fun x se => wpAny (model prog w) A (pyIter x) (fun itv sf =>
                codeAny (model prog w) A (.compStart (.DictComp kx vx [⟨t0, i0, ifs0, 0⟩, ⟨t1, i1, ifs1, 0⟩] scope pos) 1 itv acc env) (fun r s' => match r with
                  | .ok _ => ∃ m, m < n ∧ J m s'
                  | .error _ => False) sf) (fun _ _ => False) se) (fun _ _ => False) sd
            else ∃ m, m < n ∧ J m sd) (fun _ _ => False) sc) (fun _ _ => False) sb) (fun _ _ => False) sa) (fun _ _ => False) s) (n : Nat) (h : J n s) :
    codeAny (model prog w) A (.compLoop (.DictComp kx vx [⟨t0, i0, ifs0, 0⟩, ⟨t1, i1, ifs1, 0⟩] scope pos) 0 it acc env) R s := by
  refine codeAny_loop rfl J (fun n s hJ => ?_) n h
  show wpAny _ A ((compTurn (.DictComp kx vx [⟨t0, i0, ifs0, 0⟩, ⟨t1, i1, ifs1, 0⟩] scope pos) 0 it acc env).onRaise (fun x => do noteFrame x env; theTreesLotGoes x)) _ _ s
  refine wpAny_noted ?_
  rw [dcTurn_out]
  refine wpAny_bind (wpAny_standAt (wpAny_bind (thnF (turn n s hJ) fun r sa ha => ?_)))
  cases r with
  | none => exact wpAny_pure ha
  | some v =>
    refine wpAny_bind (thnF ha fun _ sb hb => wpAny_bind (thnF hb fun _ sc hcs => wpAny_bind (thnF hcs fun ok sd hd => ?_)))
    cases ok with
    | false => exact wpAny_pure ⟨rfl, hd⟩
    | true =>
      refine wpAny_bind (thnF hd fun x se hxe => wpAny_bind (wpAny_standAt (wpAny_bind (wpAny_of_eq (hs x) (wpAny_bind (wpAny_holding (thnF hxe fun itv sf hf => ?_)))))))
      refine wpAny_bind (wpAny_runOwn ?_)
      rw [Around.mark_none]
      refine codeAny_mono hf fun r s' hr => ?_
      cases r with
      | error e => exact hr.elim
      | ok f =>
        first
          | exact wpAny_pure ⟨rfl, hr⟩
          | exact wpAny_bind (wpAny_pure (wpAny_pure ⟨rfl, hr⟩))
/-- the inner clause's turns -/
theorem dcLoop_in (J : Nat → Shared → Prop)
    (turn : ∀ n s, J n s → wpAny (model prog w) A (pyNext it) (fun r sa => match r with
      | none => R (.ok .next) sa
      | some v => wpAny (model prog w) A (letOwnedTupleGo t1 it v) (fun _ sb => wpAny (model prog w) A (assign t1 env v) (fun _ sc =>
          wpAny (model prog w) A (forIn ifs1 true fun c r => if r = true then do let ok ← isTrue c env (eval c env); pure (ForInStep.yield ok) else pure (ForInStep.yield r)) (fun ok sd =>
            if ok = true then wpAny (model prog w) A (eval kx env) (fun kv se => wpAny (model prog w) A (eval vx env) (fun vv sf => wpAny (model prog w) A (dictSet D kv vv) (fun _ sg => ∃ m, m < n ∧ J m sg) (fun _ _ => False) sf) (fun _ _ => False) se) (fun _ _ => False) sd
            else ∃ m, m < n ∧ J m sd) (fun _ _ => False) sc) (fun _ _ => False) sb) (fun _ _ => False) sa) (fun _ _ => False) s) (n : Nat) (h : J n s) :
    codeAny (model prog w) A (.compLoop (.DictComp kx vx [⟨t0, i0, ifs0, 0⟩, ⟨t1, i1, ifs1, 0⟩] scope pos) 1 it (.ref D) env) R s := by
  refine codeAny_loop rfl J (fun n s hJ => ?_) n h
  show wpAny _ A ((compTurn (.DictComp kx vx [⟨t0, i0, ifs0, 0⟩, ⟨t1, i1, ifs1, 0⟩] scope pos) 1 it (.ref D) env).onRaise (fun x => do noteFrame x env; theTreesLotGoes x)) _ _ s
  refine wpAny_noted ?_
  rw [dcTurn_in]
  refine wpAny_bind (wpAny_standAt (wpAny_bind (thnF (turn n s hJ) fun r sa ha => ?_)))
  cases r with
  | none => exact wpAny_pure ha
  | some v =>
    refine wpAny_bind (thnF ha fun _ sb hb => wpAny_bind (thnF hb fun _ sc hcs => wpAny_bind (thnF hcs fun ok sd hd => ?_)))
    cases ok with
    | false => exact wpAny_pure ⟨rfl, hd⟩
    | true => exact wpAny_bind (wpAny_bind (thnF hd fun kv se hk => wpAny_bind (wpAny_holding (thnF hk fun vv sf hv => wpAny_bind (wpAny_standAt (wpAny_holding (thnF hv fun _ sg hg => wpAny_pure ⟨rfl, hg⟩)))))))
/-- the inner clause begins -/
theorem dcStart_in (h0 : codeAny (model prog w) A (.compLoop (.DictComp kx vx [⟨t0, i0, ifs0, 0⟩, ⟨t1, i1, ifs1, 0⟩] scope pos) 1 it acc env) R s)
    (h : wpAny (model prog w) A (pyIter it) (fun it' s' => codeAny (model prog w) A (.compLoop (.DictComp kx vx [⟨t0, i0, ifs0, 0⟩, ⟨t1, i1, ifs1, 0⟩] scope pos) 1 it' acc env) R s') (fun _ _ => False) s) :
    codeAny (model prog w) A (.compStart (.DictComp kx vx [⟨t0, i0, ifs0, 0⟩, ⟨t1, i1, ifs1, 0⟩] scope pos) 1 it acc env) R s := by
  refine codeAny_of_tree ?_
  show wpAny _ _ ((compStart (.DictComp kx vx [⟨t0, i0, ifs0, 0⟩, ⟨t1, i1, ifs1, 0⟩] scope pos) 1 it acc env).onRaise (fun x => do noteFrame x env; standAt theWindowsPlace)) _ _ s
  refine wpAny_notedAt ?_
  unfold compStart
  show wpAny _ _ (ask >>= _) _ _ s
  refine wpAny_bind (wpAny_askSetting (wpAny_ite ?_))
  have h' : ∀ E, wpAny (model prog w) A (pyIter it) (fun it' s' => codeAny (model prog w) A (.compLoop (.DictComp kx vx [⟨t0, i0, ifs0, 0⟩, ⟨t1, i1, ifs1, 0⟩] scope pos) 1 it' acc env) R s') E s := fun E => thnF h fun _ _ z => z
  split
  · first
      | exact wpAny_bind (wpAny_pure (wpAny_pure (And.intro rfl h0)))
      | exact wpAny_pure (And.intro rfl h0)
  · first
      | exact wpAny_bind (wpAny_rule (wpAny_bind (wpAny_standAt (wpAny_bind (wpAny_mono (h' _) (fun it' s' h' => wpAny_pure (And.intro rfl h')) fun _ _ x => x)))))
      | (refine wpAny_bind (wpAny_rule ?_); show wpAny _ _ (standAt i1.pos >>= _) _ _ s; exact wpAny_bind (wpAny_standAt (wpAny_bind (wpAny_mono (h' _) (fun it' s' h' => wpAny_pure (And.intro rfl h')) fun _ _ x => x))))
end
section
variable {X : Cx}
theorem dl2_start {pins : List (Addr × Obj)} {s : Shared} {σ : L2.St} {H : Hp} {Q : VK} {kx vx tg iter tg1 iter1 : Expr} {ifs ifs1 : List Expr} {scope : Scope} {own : List (Str × Nat)} {vs1 : List Nat} {pos pos' : Pos} {wi wi1 : TI} {g g1 : TG} {tt tt1 : TT} {tk tv : TE} {use : Option (Value → Sem Unit)} {Qf : Value → Shared → Prop}
    (hc : X.calm = true) (hu : X.A.units < cLine) (hN : X.N.Nodup) (I : Inv X pins σ H s) (hi : PI X tg iter wi) (ok : BlkOk X.N X.env.scope scope own) (hv1 : ∀ i ∈ vs1, i ∈ own.map (·.2))
    (hg : ∀ (s : Shared) (H : Hp) (C : Addr) (cl : List (Str × Addr)) (fp : List Addr), PG (X.blk s H scope (compEnvC scope cl C X.env) fp) tg g) (ht : ∀ (s : Shared) (H : Hp) (C : Addr) (cl : List (Str × Addr)) (fp : List Addr), PTs (X.blk s H scope (compEnvC scope cl C X.env) fp) ifs tt)
    (hi1 : ∀ (s : Shared) (H : Hp) (C : Addr) (cl : List (Str × Addr)) (fp : List Addr), PI (X.blk s H scope (compEnvC scope cl C X.env) fp) tg1 iter1 wi1)
    (hg1 : ∀ (s : Shared) (H : Hp) (C : Addr) (cl : List (Str × Addr)) (fp : List Addr), PG (X.blk s H scope (compEnvC scope cl C X.env) fp) tg1 g1) (ht1 : ∀ (s : Shared) (H : Hp) (C : Addr) (cl : List (Str × Addr)) (fp : List Addr), PTs (X.blk s H scope (compEnvC scope cl C X.env) fp) ifs1 tt1)
    (hk : ∀ (s : Shared) (H : Hp) (C : Addr) (cl : List (Str × Addr)) (fp : List Addr), PE (X.blk s H scope (compEnvC scope cl C X.env) fp) kx tk) (he : ∀ (s : Shared) (H : Hp) (C : Addr) (cl : List (Str × Addr)) (fp : List Addr), PE (X.blk s H scope (compEnvC scope cl C X.env) fp) vx tv)
    (hs : ∀ x, foldedSetIterable iter X.env x = pure x) (hs1 : ∀ env x, foldedSetIterable iter1 env x = pure x) (h : tDl2 X.prog X.w X.K wi g tt wi1 g1 tt1 tk tv (own.map (·.2)) vs1 σ H Q)
    (hRR : ∀ D C s' m H', Inv X pins σ H' s' → Q (.ref D) H' → s'.heap.Ns C m → FpOk X pins H' C → compPost (model X.prog X.w) X.A X.xe use Qf (.ref D) C (.ok .next) s') :
    wpAny (model X.prog X.w) X.A (comprehension (.DictComp kx vx [⟨tg, iter, ifs, 0⟩, ⟨tg1, iter1, ifs1, 0⟩] scope pos) scope X.env pos' newDict false (eval iter X.env) use) Qf X.xe s := by
  refine dl_core (more := [⟨tg1, iter1, ifs1, 0⟩]) hc hN I hi ok hs rfl h (fun s3 s4 H2 D it o0 fp tn J cl C hD hnew q I3 f3 hC I4 st4 T => ?_) hRR
  obtain ⟨W, ⟨m0, w0⟩, turn⟩ := q D o0 hD hnew
  have pg := hg s3 (upd H2 D o0) C cl fp
  have pt := ht s3 (upd H2 D o0) C cl fp
  have pi1 := hi1 s3 (upd H2 D o0) C cl fp
  have pg1 := hg1 s3 (upd H2 D o0) C cl fp
  have pt1 := ht1 s3 (upd H2 D o0) C cl fp
  have pk := hk s3 (upd H2 D o0) C cl fp
  have pe := he s3 (upd H2 D o0) C cl fp
  generalize compEnvC scope cl C X.env = ce at I4 pg pt pi1 pg1 pt1 pk pe ⊢
  refine dcLoop_out (hs1 ce) (fun n s' => ∃ i H', Inv (X.blk s3 (upd H2 D o0) scope ce fp) [] (wipe σ (own.map (·.2))) H' s' ∧ tn i s'.heap ∧ (∀ b ∈ fp, H' b = none) ∧ W i n H') ?_ m0 ⟨0, _, I4, st4, fun b hb => (f3 b hb).1, w0⟩
  rintro n s5 ⟨i, H5, I5, st5, n5, w5⟩
  rcases turn i n H5 w5 with ⟨stop, qq⟩ | ⟨go, Nx, hNx, step⟩
  · refine thnF (T.done (X.blk s3 (upd H2 D o0) scope ce fp) rfl rfl rfl hc i [] s5 _ H5 (fun _ _ => False) I5 (blk_fp I5 n5) st5 stop) fun r s6 ⟨hr, I6⟩ => ?_
    subst hr
    exact ⟨rfl, H5, I6, qq⟩
  · refine thnF (T.item (X.blk s3 (upd H2 D o0) scope ce fp) rfl rfl rfl hc i [] s5 _ H5 (fun _ _ => False) I5 (blk_fp I5 n5) st5 go) fun r s6 ⟨u, hr, h6⟩ => ?_
    subst hr
    refine thnF h6 fun _ s7 ⟨x, H7, I7, r7, y7, st7, n7⟩ => ?_
    have I7' := I7.pinned (blk_fp I7 n7) (T.obj _ _ st7)
    refine thnF (pg.run _ s7 _ H7 x u _ I7' r7 (step x H7 y7)) fun _ s8 ⟨σ8, H8, I8, hw8, q8⟩ => ?_
    refine thnF (pt.run _ s8 σ8 H8 _ I8 q8) fun b s9 ⟨H9, I9, q9⟩ => ?_
    have fin : ∀ {σ9 : L2.St} {s' : Shared} {H' : Hp}, Inv (X.blk s3 (upd H2 D o0) scope ce fp) ([] ++ pinsAt fp s7.heap) σ9 H' s' → (wipe σ (own.map (·.2))).length = σ9.length → (∀ (j : Nat) v, (wipe σ (own.map (·.2)))[j]? = some (some v) → σ9[j]? = some (some v)) → Nx H' →
        ∃ m, m < n ∧ ∃ i H', Inv (X.blk s3 (upd H2 D o0) scope ce fp) [] (wipe σ (own.map (·.2))) H' s' ∧ tn i s'.heap ∧ (∀ b ∈ fp, H' b = none) ∧ W i m H' := fun {σ9 s' H'} I' hl hk nx => by
      obtain ⟨m', hm, w'⟩ := hNx H' nx
      obtain ⟨J1, J2, J3⟩ := turn_pins (τ := wipe σ (own.map (·.2))) T.keep (fun b hb => let ⟨o, e, _⟩ := T.obj _ _ st7 b hb; ⟨o, e⟩) st7 I' hl hk
      exact ⟨m', hm, i + 1, H', J1, J2, J3, w'⟩
    have hl8 : (wipe σ (own.map (·.2))).length = σ8.length := by rw [← hw8, wipe_length]
    have hk8 : ∀ (j : Nat) v, (wipe σ (own.map (·.2)))[j]? = some (some v) → σ8[j]? = some (some v) ∧ j ∉ own.map (·.2) := fun j v e => by
      rw [← hw8] at e
      exact wipe_some e
    cases b with
    | false =>
      simp only [Bool.false_eq_true, if_false] at q9 ⊢
      exact fin I9 hl8 (fun j v e => (hk8 j v e).1) q9
    | true =>
      simp only [if_true] at q9 ⊢
      refine thnF (pi1.run _ s9 σ8 H9 _ I9 q9) fun xv s10 hx => thnF hx fun itv s11 h11 => ?_
      obtain ⟨it1, fp1, tn1, J1, H11, e1, I11, T1, st11, f11, W1, ⟨m1, w1⟩, turn1⟩ := h11
      subst e1
      have fp1ok : ∀ {H' : Hp}, (∀ b ∈ fp1, H' b = none) → ∀ b ∈ fp1, FpOk (X.blk s3 (upd H2 D o0) scope ce fp) ([] ++ pinsAt fp s7.heap) H' b := fun hn b hb => ⟨hn b hb, (f11 b hb).2⟩
      have inner : codeAny (model X.prog X.w) X.A (.compLoop (.DictComp kx vx [⟨tg, iter, ifs, 0⟩, ⟨tg1, iter1, ifs1, 0⟩] scope pos) 1 (.ref it1) (.ref D) ce)
          (fun r s' => match r with
            | .ok _ => ∃ m, m < n ∧ ∃ i H', Inv (X.blk s3 (upd H2 D o0) scope ce fp) [] (wipe σ (own.map (·.2))) H' s' ∧ tn i s'.heap ∧ (∀ b ∈ fp, H' b = none) ∧ W i m H'
            | .error _ => False) s11 := by
        refine dcLoop_in (fun k s' => ∃ j H', Inv (X.blk s3 (upd H2 D o0) scope ce fp) ([] ++ pinsAt fp s7.heap) (wipe σ8 vs1) H' s' ∧ tn1 j s'.heap ∧ (∀ b ∈ fp1, H' b = none) ∧ W1 j k H') ?_ m1 ⟨0, H11, I11.weak (wipe_length _ _) (fun j v e => (wipe_some e).1), st11, fun b hb => (f11 b hb).1, w1⟩
        rintro k s12 ⟨j, H12, I12, st12, n12, w12⟩
        rcases turn1 j k H12 w12 with ⟨stop1, nx1⟩ | ⟨go1, Nx1, hNx1, step1⟩
        · refine thnF (T1.done (X.blk s3 (upd H2 D o0) scope ce fp) rfl rfl rfl hc j _ s12 (wipe σ8 vs1) H12 (fun _ _ => False) I12 (fp1ok n12) st12 stop1) fun r s13 ⟨hr, I13⟩ => ?_
          subst hr
          refine fin I13 (hl8.trans (wipe_length σ8 vs1).symm) (fun j v e => ?_) nx1
          rw [wipe_out fun z => (hk8 j v e).2 (hv1 j z)]
          exact (hk8 j v e).1
        · refine thnF (T1.item (X.blk s3 (upd H2 D o0) scope ce fp) rfl rfl rfl hc j _ s12 (wipe σ8 vs1) H12 (fun _ _ => False) I12 (fp1ok n12) st12 go1) fun r s13 ⟨u1, hr, h13⟩ => ?_
          subst hr
          refine thnF h13 fun _ s14 ⟨x1, H14, I14, r14, y14, st14, n14⟩ => ?_
          have I14' := I14.pinned (fp1ok n14) (T1.obj _ _ st14)
          refine thnF (pg1.run _ s14 (wipe σ8 vs1) H14 x1 u1 _ I14' r14 (step1 x1 H14 y14)) fun _ s15 ⟨σ15, H15, I15, hw15, q15⟩ => ?_
          refine thnF (pt1.run _ s15 σ15 H15 _ I15 q15) fun b1 s16 ⟨H16, I16, q16⟩ => ?_
          have fin1 : ∀ {s' : Shared} {H' : Hp}, Inv (X.blk s3 (upd H2 D o0) scope ce fp) (([] ++ pinsAt fp s7.heap) ++ pinsAt fp1 s14.heap) σ15 H' s' → Nx1 H' → ∃ m, m < k ∧ ∃ j H', Inv (X.blk s3 (upd H2 D o0) scope ce fp) ([] ++ pinsAt fp s7.heap) (wipe σ8 vs1) H' s' ∧ tn1 j s'.heap ∧ (∀ b ∈ fp1, H' b = none) ∧ W1 j m H' := fun {s' H'} I' nx => by
            obtain ⟨m', hm, w'⟩ := hNx1 H' nx
            obtain ⟨J1, J2, J3⟩ := turn_pins (τ := wipe σ8 vs1) T1.keep (fun b hb => let ⟨o, e, _⟩ := T1.obj _ _ st14 b hb; ⟨o, e⟩) st14 I' (by rw [← hw15, wipe_length]) (fun j v e => by rw [← hw15] at e; exact (wipe_some e).1)
            exact ⟨m', hm, j + 1, H', J1, J2, J3, w'⟩
          cases b1 with
          | false =>
            simp only [Bool.false_eq_true, if_false] at q16 ⊢
            exact fin1 I16 q16
          | true =>
            simp only [if_true] at q16 ⊢
            exact kv_run (Y := X.blk s3 (upd H2 D o0) scope ce fp) hu rfl I16 pk pe q16 fun s' H' I' nx => fin1 I' nx
      exact dcStart_in inner (T1.self X.A 0 _ _ _ st11 inner)
/-- as values -/
theorem pe_dl {kx vx tg iter : Expr} {ifs : List Expr} {scope : Scope} {own : List (Str × Nat)} {pos : Pos} {wi : TI} {g : TG} {tt : TT} {tk tv : TE} (hc : X.calm = true) (hu : X.A.units < cLine) (hN : X.N.Nodup) (hi : PI X tg iter wi) (ok : BlkOk X.N X.env.scope scope own)
    (hg : ∀ (s : Shared) (H : Hp) (C : Addr) (cl : List (Str × Addr)) (fp : List Addr), PG (X.blk s H scope (compEnvC scope cl C X.env) fp) tg g) (ht : ∀ (s : Shared) (H : Hp) (C : Addr) (cl : List (Str × Addr)) (fp : List Addr), PTs (X.blk s H scope (compEnvC scope cl C X.env) fp) ifs tt)
    (hk : ∀ (s : Shared) (H : Hp) (C : Addr) (cl : List (Str × Addr)) (fp : List Addr), PE (X.blk s H scope (compEnvC scope cl C X.env) fp) kx tk) (he : ∀ (s : Shared) (H : Hp) (C : Addr) (cl : List (Str × Addr)) (fp : List Addr), PE (X.blk s H scope (compEnvC scope cl C X.env) fp) vx tv) (hs : ∀ x, foldedSetIterable iter X.env x = pure x) :
    PE X (.DictComp kx vx [⟨tg, iter, ifs, 0⟩] scope pos) (tDl X.prog X.w X.K wi g tt tk tv (own.map (·.2))) := by
  refine ⟨fun pins s σ H Q I h => ?_⟩
  rw [arm_eval_DictComp]
  refine dl_start hc hu hN I hi ok hg ht hk he hs h fun D C s' m H' I' q hn ⟨f0, f1, f2, f3, f4, f5⟩ => ⟨m, hn, fun h'' sb => ?_⟩
  exact ⟨.ref D, H', I'.turned (t' := s'.toks) (fun b o hb e => (sb.2 b hb).trans e) f0 f1 f3 f4 f5, rfl, q⟩
theorem pe_dl2 {kx vx tg iter tg1 iter1 : Expr} {ifs ifs1 : List Expr} {scope : Scope} {own : List (Str × Nat)} {vs1 : List Nat} {pos : Pos} {wi wi1 : TI} {g g1 : TG} {tt tt1 : TT} {tk tv : TE} (hc : X.calm = true) (hu : X.A.units < cLine) (hN : X.N.Nodup) (hi : PI X tg iter wi) (ok : BlkOk X.N X.env.scope scope own) (hv1 : ∀ i ∈ vs1, i ∈ own.map (·.2))
    (hg : ∀ (s : Shared) (H : Hp) (C : Addr) (cl : List (Str × Addr)) (fp : List Addr), PG (X.blk s H scope (compEnvC scope cl C X.env) fp) tg g) (ht : ∀ (s : Shared) (H : Hp) (C : Addr) (cl : List (Str × Addr)) (fp : List Addr), PTs (X.blk s H scope (compEnvC scope cl C X.env) fp) ifs tt)
    (hi1 : ∀ (s : Shared) (H : Hp) (C : Addr) (cl : List (Str × Addr)) (fp : List Addr), PI (X.blk s H scope (compEnvC scope cl C X.env) fp) tg1 iter1 wi1)
    (hg1 : ∀ (s : Shared) (H : Hp) (C : Addr) (cl : List (Str × Addr)) (fp : List Addr), PG (X.blk s H scope (compEnvC scope cl C X.env) fp) tg1 g1) (ht1 : ∀ (s : Shared) (H : Hp) (C : Addr) (cl : List (Str × Addr)) (fp : List Addr), PTs (X.blk s H scope (compEnvC scope cl C X.env) fp) ifs1 tt1)
    (hk : ∀ (s : Shared) (H : Hp) (C : Addr) (cl : List (Str × Addr)) (fp : List Addr), PE (X.blk s H scope (compEnvC scope cl C X.env) fp) kx tk) (he : ∀ (s : Shared) (H : Hp) (C : Addr) (cl : List (Str × Addr)) (fp : List Addr), PE (X.blk s H scope (compEnvC scope cl C X.env) fp) vx tv)
    (hs : ∀ x, foldedSetIterable iter X.env x = pure x) (hs1 : ∀ env x, foldedSetIterable iter1 env x = pure x) :
    PE X (.DictComp kx vx [⟨tg, iter, ifs, 0⟩, ⟨tg1, iter1, ifs1, 0⟩] scope pos) (tDl2 X.prog X.w X.K wi g tt wi1 g1 tt1 tk tv (own.map (·.2)) vs1) := by
  refine ⟨fun pins s σ H Q I h => ?_⟩
  rw [arm_eval_DictComp]
  refine dl2_start hc hu hN I hi ok hv1 hg ht hi1 hg1 ht1 hk he hs hs1 h fun D C s' m H' I' q hn ⟨f0, f1, f2, f3, f4, f5⟩ => ⟨m, hn, fun h'' sb => ?_⟩
  exact ⟨.ref D, H', I'.turned (t' := s'.toks) (fun b o hb e => (sb.2 b hb).trans e) f0 f1 f3 f4 f5, rfl, q⟩
/-- y = {k: v for ..}, y a plain local name -/
theorem ps_setDl {i : Nat} {y : Str} {py : Pos} {kx vx tg iter : Expr} {ifs : List Expr} {scope : Scope} {own : List (Str × Nat)} {pos spos : Pos} {wi : TI} {g : TG} {tt : TT} {tk tv : TE} (hc : X.calm = true) (hu : X.A.units < cLine) (hN : X.N.Nodup) (hy : X.N[i]? = some y) (hyl : X.env.scope.names.lookup y = some .local)
    (hsw : swapsWith (.DictComp kx vx [⟨tg, iter, ifs, 0⟩] scope pos) (some (.Name y py)) spos.line X.env = pure true) (hi : PI X tg iter wi) (ok : BlkOk X.N X.env.scope scope own)
    (hg : ∀ (s : Shared) (H : Hp) (C : Addr) (cl : List (Str × Addr)) (fp : List Addr), PG (X.blk s H scope (compEnvC scope cl C X.env) fp) tg g) (ht : ∀ (s : Shared) (H : Hp) (C : Addr) (cl : List (Str × Addr)) (fp : List Addr), PTs (X.blk s H scope (compEnvC scope cl C X.env) fp) ifs tt)
    (hk : ∀ (s : Shared) (H : Hp) (C : Addr) (cl : List (Str × Addr)) (fp : List Addr), PE (X.blk s H scope (compEnvC scope cl C X.env) fp) kx tk) (he : ∀ (s : Shared) (H : Hp) (C : Addr) (cl : List (Str × Addr)) (fp : List Addr), PE (X.blk s H scope (compEnvC scope cl C X.env) fp) vx tv) (hs : ∀ x, foldedSetIterable iter X.env x = pure x) :
    PS X (.Assign [.Name y py] (.DictComp kx vx [⟨tg, iter, ifs, 0⟩] scope pos) spos) (tAsg (tDl X.prog X.w X.K wi g tt tk tv (own.map (·.2))) (gName i)) := by
  refine ⟨fun pins s σ H D I h => ?_⟩
  rw [exec_Assign_Name_used _ _ _ _ hsw]
  refine wpAny_bind (wpAny_standAt (wpAny_bind ?_))
  show wpAny _ X.A (do let _ ← comprehension (.DictComp kx vx [⟨tg, iter, ifs, 0⟩] scope pos) scope X.env (firstIterPos [⟨tg, iter, ifs, 0⟩] pos) newDict false (eval iter X.env) (some (assign (.Name y py) X.env))) _ _ s
  have h : tDl X.prog X.w X.K wi g tt tk tv (own.map (·.2)) σ H (fun x H1 => gName i x σ H1 D.nx) := h
  refine wpAny_bind (thn (dl_start (Qf := fun _ s' => SP X pins D .next s') hc hu hN I hi ok hg ht hk he hs h fun L C s' m H' I' q hn f => ?_) fun _ s' hq => wpAny_pure (wpAny_pure hq))
  show wpAny _ _ (assign (.Name y py) X.env (.ref L)) _ _ _
  refine wpAny_assign_Name (store_ok2 (v := V.ref L) I' hN hy (.inl hyl) rfl (fun s2 I2 ⟨a, sb, ha⟩ => ?_) (.inr hyl))
  obtain ⟨f0, f1, f2, f3, f4, f5⟩ := f
  have haC : C ≠ a := ha.elim (fun z => by rw [z]; exact f1) fun z e => f4 y a z e.symm
  refine ⟨m, hn.sameBut sb haC, fun h3 sb3 => ?_⟩
  exact ⟨_, H', I2.turned (t' := s2.toks) (fun b o hb e => (sb3.2 b hb).trans e) f0 f1 f3 f4 f5, q⟩
end
end Fc
/-! FcI: dicts of literals walked: keys, pairs; list(d), sorted(..) of anything that can be collected. -/
namespace Fc
open PySem PySem.Spec PyProof.Rows L2
section
variable {X : Cx} {pins : List (Addr × Obj)} {σ : L2.St} {H : Hp} {s : Shared} {d : Addr} {xs : Raw} {ep : Nat}
theorem raw_of (I : Inv X pins σ H s) (h1 : H d = some (ldX X.prog X.w d xs ep)) : ∃ es, s.heap.DictRaw d es ep ∧ es.size = xs.length ∧ ∀ (i : Nat) (hi : i < es.size) e, xs[i]? = some e → es[i].key = .ref e.2.1 ∧ es[i].val = e.2.2 := by
  obtain ⟨⟨o, es, g1, g2, g3, g4⟩, _, _⟩ := (show ObjOk X.prog X.w H s.heap d (ldX X.prog X.w d xs ep) from I.hok d _ h1)
  refine ⟨es, ⟨o, g1, g2, g3⟩, ?_, fun i hi e he => ?_⟩
  · have := congrArg List.length g4
    rw [List.length_map, List.length_map, Array.length_toList] at this
    exact this
  · have h : es.toList[i]? = some es[i] := by rw [Array.getElem?_toList, Array.getElem?_eq_getElem hi]
    rw [g4, List.getElem?_map, List.getElem?_map, he] at h
    have h := Option.some.inj h
    rw [← h]
    exact ⟨rfl, rfl⟩
end
section
variable (P : Program) (w : World)
/-- the keys' own tuples -/
def ItLk (d : Addr) (xs : Raw) (ep : Nat) : It :=
  ⟨fun i H => H d = some (ldX P w d xs ep) ∧ i < xs.length, fun i H x H' => H' = H ∧ ∃ e, xs[i]? = some e ∧ x = .ref e.2.1, fun i H => H d = some (ldX P w d xs ep) ∧ xs.length ≤ i⟩
/-- the pairs, new tuples -/
def ItLi (d : Addr) (kvs : List (Lt × V)) (xs : Raw) (ep : Nat) : It :=
  ⟨fun i H => H d = some (ldX P w d xs ep) ∧ i < xs.length, fun i H x H' => ∃ T e p, xs[i]? = some e ∧ kvs[i]? = some p ∧ x = .ref T ∧ H T = none ∧ H' = upd H T (.tup [.ref e.2.1, p.2]), fun i H => H d = some (ldX P w d xs ep) ∧ xs.length ≤ i⟩
end
theorem turn_lk {P : Program} {w : World} {K : PySem.W.Frag} {tg : Expr} (d it : Addr) (xs : Raw) (ep : Nat) : Turn P w K tg (ItLk P w d xs ep) [it] it (fun i h => h.IsKeyIter it d i xs.length ep) where
  mem := by simp
  obj := fun i h st b hb => by
    obtain rfl : b = it := by simpa using hb
    obtain ⟨oi, e, c, dd⟩ := st
    exact ⟨oi, e, fun v z => by rw [dd] at z; cases z⟩
  keep := fun i h h' st k => st.at fun oi e => k it (by simp) oi e
  item := by
    rintro X rfl rfl rfl hc i pins s σ H E I hf st ⟨hd, hi⟩
    obtain ⟨f0, f1, f2, f3, f4, f5⟩ := hf it (by simp)
    obtain ⟨es, hr, hsz, ent⟩ := raw_of I hd
    rw [← hsz] at st
    have hie : i < es.size := by omega
    refine wpAny_pyNext_keys_item_raw st hr hie fun h' st' sb => ?_
    have I1 : Inv X pins σ H { s with heap := h' } := I.turned (t' := s.toks) (fun b ob hb e => (sb.2 b hb).trans e) f0 f1 f3 f4 f5
    obtain ⟨oi, e, c, dd⟩ := id st'
    have he := List.getElem?_eq_getElem hi
    rw [hsz] at st'
    exact ⟨_, rfl, go_of (s := { s with heap := h' }) e c dd (by decide) ⟨.ref xs[i].2.1, H, I1, (ent i hie _ he).1, ⟨rfl, _, he, rfl⟩, st', fun b hb => (hf b hb).1⟩⟩
  done := by
    rintro X rfl rfl rfl hc i pins s σ H E I hf st ⟨hd, hi⟩
    obtain ⟨f0, f1, f2, f3, f4, f5⟩ := hf it (by simp)
    obtain ⟨es, hr, hsz, ent⟩ := raw_of I hd
    rw [← hsz] at st
    exact wpAny_pyNext_keys_end_raw (I.ok.hd hc) st hr (by omega) fun h' eb => ⟨rfl, I.turned (t' := s.toks) (fun b ob hb e => eb b ob hb e) f0 f1 f3 f4 f5⟩
  self := fun A i s Q E st h => by
    refine wpAny_pyIter_slot st.typeIs F.slot_dict_keyiterator_iter (wpAny_call_entry F.slot_dict_keyiterator_iter st.typeIs F.entry_dict_keyiterator_iter ?_ (F.args_dict_keyiterator_iter_1 _))
    show wpAny _ _ (ret (.ref it)) _ _ s
    exact wpAny_pure ⟨_, rfl, "dict_keyiterator", _, st.typeIs, F.slot_dict_keyiterator_next.lookup, h⟩
theorem turn_li {P : Program} {w : World} {K : PySem.W.Frag} {elts : List Expr} {kk : Nat} {tpos : Pos} (d it : Addr) (T0 : Hp) (kvs : List (Lt × V)) (xs : Raw) (ep : Nat) (rel : KL K T0 kvs xs) :
    Turn P w K (.Tuple elts kk tpos) (ItLi P w d kvs xs ep) [it] it (fun i h => ∃ ok ov, IsItemIter h it d i xs.length ep ok ov) where
  mem := by simp
  obj := fun i h st b hb => by
    obtain rfl : b = it := by simpa using hb
    obtain ⟨ok, ov, e⟩ := st
    exact ⟨_, e, fun v z => nomatch z⟩
  keep := fun i h h' st k => let ⟨ok, ov, e⟩ := st; ⟨ok, ov, k it (by simp) _ e⟩
  item := by
    rintro X rfl rfl rfl hc i pins s σ H E I hf st ⟨hd, hi⟩
    obtain ⟨es, hr, hsz, ent⟩ := raw_of I hd
    obtain ⟨ok, ov, he⟩ := st
    rw [← hsz] at he
    have hie : i < es.size := by omega
    have hlt : it < s.heap.objs.size := Heap.lt_size he
    have hx := List.getElem?_eq_getElem hi
    obtain ⟨k1, k2⟩ := ent i hie _ hx
    have hk : i < kvs.length := by rw [Paired.length rel]; exact hi
    have hp := List.getElem?_eq_getElem hk
    obtain ⟨e', he', r1, r2, r3⟩ := paired_get rel hp
    rw [hx] at he'
    cases he'
    refine wpAny_pyNext_items_item_raw he hr hie fun h' ho hT hz hk' => ?_
    refine ⟨_, rfl, wpAny_letOwnedTupleGo_items (s := { s with heap := h' }) ho fun h'' he'' sb => ?_⟩
    have hT2 : h''.get? s.heap.objs.size = some { cls := .type "tuple", data := .seq #[es[i].key, es[i].val] } := (sb.2 _ (Nat.ne_of_gt hlt)).trans hT
    have new : ObjOk X.prog X.w (upd H s.heap.objs.size (.tup [.ref xs[i].2.1, kvs[i].2])) h'' s.heap.objs.size (.tup [.ref xs[i].2.1, kvs[i].2]) :=
      ⟨small_sz (by decide : 2 ≤ 1000000), [es[i].key, es[i].val], .cons k1 (.cons (by rw [k2]; exact r3) .nil), ⟨_, hT2, rfl, _, rfl⟩⟩
    have I1 : Inv X pins σ (upd H s.heap.objs.size (.tup [.ref xs[i].2.1, kvs[i].2])) { s with heap := h'' } :=
      I.turnedNew (t' := s.toks) (ch := [it]) (fun b ob hb e => (sb.2 b (by simpa using hb)).trans (hk' b ob (by simpa using hb) e)) hf (Nat.le_refl _) new
    refine ⟨.ref s.heap.objs.size, _, I1, rfl, ⟨_, _, _, hx, hp, rfl, I.hok.fresh (Nat.le_refl _), rfl⟩, ⟨es[i].key, es[i].val, ?_⟩, fun b hb => ?_⟩
    · rw [← hsz]; exact he''
    · obtain rfl : b = it := by simpa using hb
      rw [upd_ne (Nat.ne_of_lt hlt)]
      exact (hf b (by simp)).1
  done := by
    rintro X rfl rfl rfl hc i pins s σ H E I hf st ⟨hd, hi⟩
    obtain ⟨f0, f1, f2, f3, f4, f5⟩ := hf it (by simp)
    obtain ⟨es, hr, hsz, ent⟩ := raw_of I hd
    obtain ⟨ok, ov, he⟩ := st
    rw [← hsz] at he
    exact wpAny_pyNext_items_end_raw (I.ok.hd hc) he hr (by omega) fun h' eb => ⟨rfl, I.turned (t' := s.toks) (fun b ob hb e => eb b ob hb e) f0 f1 f3 f4 f5⟩
  self := fun A i s Q E st h => let ⟨_, _, e⟩ := st; PySem.W.kcp_self e h
section
variable {X : Cx} {tg e : Expr} {td : TE} {apos cpos : Pos}
/-- for k in d -/
def iLk (P : Program) (w : World) (td : TE) : TI := fun σ H R => td σ H fun x H1 => ∃ d xs ep, x = .ref d ∧ (d == sysModules) = false ∧ H1 d = some (ldX P w d xs ep) ∧ R (ItLk P w d xs ep) H1
theorem pi_lk (he : PE X e td) : PI X tg e (iLk X.prog X.w td) := by
  refine ⟨fun pins s σ H R I h => thn (he.run pins s σ H _ I h) fun u s1 ⟨x, H1, I1, rx, d, xs, ep, ex, lo, hd, q⟩ => ?_⟩
  subst ex
  obtain rfl : u = Value.ref d := rx
  obtain ⟨es, hr, hsz, _⟩ := raw_of I1 hd
  refine wpAny_pyIter_dict_raw lo hr (pi_one (tk := s1.toks) I1 _ (turn_lk d _ xs ep) ⟨_, Heap.get?_push_size _ rfl, rfl, ?_⟩ q)
  rw [hsz] <;> rfl
/-- for k, v in d.items() -/
def iLi (P : Program) (w : World) (K : PySem.W.Frag) (td : TE) : TI := fun σ H R => td σ H fun x H1 => ∃ d T0 kvs xs ep, x = .ref d ∧ (d == sysModules) = false ∧ H1 d = some (ldX P w d xs ep) ∧ KL K T0 kvs xs ∧ R (ItLi P w d kvs xs ep) H1
theorem pi_li {elts : List Expr} {kk : Nat} {tpos : Pos} (he : PE X e td) (hbase : attributeBase e "items" X.env (eval e X.env) = eval e X.env := by rfl) (hline : (apos.endLine == cpos.line) = true := by rfl) : PI X (.Tuple elts kk tpos) (.Call (.Attribute e "items" apos) [] [] cpos) (iLi X.prog X.w X.K td) := by
  refine ⟨fun pins s σ H R I h => ?_⟩
  refine wpAny_Call_method (T := "dict") (id := "dict.items") hbase rfl hline F.plainAttrs_dict F.slot_dict_items F.type_dict_items (thn (he.run pins s σ H _ I h) fun u s1 ⟨x, H1, I1, rx, d, T0, kvs, xs, ep, ex, lo, hd, rel, q⟩ => ?_)
  subst ex
  obtain rfl : u = Value.ref d := rx
  obtain ⟨es, hr, hsz, _⟩ := raw_of I1 hd
  refine ⟨hr.typeIs, fun b hb => by cases hb; obtain ⟨o, g1, g2, _⟩ := hr; exact ⟨o, g1, g2.2.1⟩, ?_⟩
  have I2 : Inv X pins σ H1 { s1 with heap := s1.heap.push { cls := .type "dict_items", data := .fields #[.ref d] } } := I1.kept (t' := s1.toks) fun b ob q => Heap.get?_push_of_some _ q
  have hr2 : (s1.heap.push { cls := .type "dict_items", data := .fields #[.ref d] }).DictRaw d es ep := hr.at fun o q => Heap.get?_push_of_some _ q
  have fin : wpAny (model X.prog X.w) X.A (pyIter (.ref s1.heap.objs.size)) (PIE X pins σ (.Tuple elts kk tpos) R) X.xe { s1 with heap := s1.heap.push { cls := .type "dict_items", data := .fields #[.ref d] } } := by
    refine wpAny_pyIter_items_raw (d := d) ⟨_, Heap.get?_push_size _ rfl, rfl, rfl⟩ hr2 (pi_one (tk := s1.toks) I2 _ (turn_li d _ T0 kvs xs ep rel) ⟨.none, .none, ?_⟩ q)
    rw [← hsz]
    exact Heap.get?_push_size _ rfl
  show wpAny _ _ (callWith cpos (.builtin "dict.items") [.ref d] [] []) _ X.xe s1
  exact method_meetsIn F.slot_dict_items F.entry_dict_items rfl (PySem.evalArgs_none ⟨rfl, hr.typeIs, F.args_dict_items_1 _, _, meets_dict_items_raw d lo, ⟨es, ep, hr⟩, fin⟩)
end

/-! ### what is read of such a dict -/
section
variable {κ : Type} [DecidableEq κ]
/-- the values' data -/
abbrev DV (K : PySem.W.Frag) (B : Hp) : List (κ × V) → List (κ × PyData) → Prop := Paired fun p q => p.1 = q.1 ∧ Dp K B p.2 q.2
theorem DV.mono {K : PySem.W.Frag} {B B' : Hp} {kv : List (κ × V)} {kvs : List (κ × PyData)} (s : Same B B') (r : DV K B kv kvs) : DV K B' kv kvs := Paired.mapP r fun _ _ z => ⟨z.1, dp_mono s _ _ z.2⟩
def valD (kvs : List (κ × PyData)) (k : κ) : Option PyData := (kvs.find? fun kv => decide (kv.1 = k)).map (·.2)
def putD (kvs : List (κ × PyData)) (k : κ) (v : PyData) : List (κ × PyData) := if (valD kvs k).isSome then kvs.map (fun kv => if kv.1 = k then (kv.1, v) else kv) else kvs ++ [(k, v)]
theorem valD_pos {p : κ × PyData} {r : List (κ × PyData)} {k : κ} (e : p.1 = k) : valD (p :: r) k = some p.2 := by simp [valD, List.find?_cons, e]
theorem valD_neg {p : κ × PyData} {r : List (κ × PyData)} {k : κ} (e : ¬ p.1 = k) : valD (p :: r) k = valD r k := by simp [valD, List.find?_cons, e]
theorem DV.val {K : PySem.W.Frag} {B : Hp} {kv : List (κ × V)} {kvs : List (κ × PyData)} (r : DV K B kv kvs) (k : κ) : (valV kv k = none ∧ valD kvs k = none) ∨ ∃ v d, valV kv k = some v ∧ valD kvs k = some d ∧ Dp K B v d := by
  induction r with
  | nil => exact .inl ⟨rfl, rfl⟩
  | @cons p q ps qs h t ih =>
    by_cases e : p.1 = k
    · exact .inr ⟨_, _, valV_pos e, valD_pos (h.1.symm.trans e), h.2⟩
    · rw [valV_neg e, valD_neg fun z => e (h.1.trans z)]
      exact ih
theorem DV.some {K : PySem.W.Frag} {B : Hp} {kv : List (κ × V)} {kvs : List (κ × PyData)} (r : DV K B kv kvs) {k : κ} {d : PyData} (h : valD kvs k = some d) : ∃ v, valV kv k = some v ∧ Dp K B v d := by
  rcases r.val k with ⟨_, h2⟩ | ⟨v, d', h1, h2, h3⟩
  · rw [h2] at h; cases h
  · rw [h2] at h; cases h; exact ⟨v, h1, h3⟩
theorem DV.isSome {K : PySem.W.Frag} {B : Hp} {kv : List (κ × V)} {kvs : List (κ × PyData)} (r : DV K B kv kvs) (k : κ) : (valV kv k).isSome = (valD kvs k).isSome := by
  rcases r.val k with ⟨h1, h2⟩ | ⟨v, d', h1, h2, h3⟩ <;> rw [h1, h2] <;> rfl
theorem DV.put {K : PySem.W.Frag} {B : Hp} {kv : List (κ × V)} {kvs : List (κ × PyData)} (r : DV K B kv kvs) (k : κ) {v : V} {d : PyData} (h : Dp K B v d) : DV K B (putK kv k v) (putD kvs k d) := by
  unfold putK putD
  rw [valV_any, r.isSome k]
  split
  · rename_i h0
    clear h0
    induction r with
    | nil => exact .nil
    | @cons p q ps qs hh t ih =>
      rw [List.map_cons, List.map_cons]
      refine .cons ?_ ih
      by_cases e : p.1 = k
      · rw [if_pos e, if_pos (hh.1.symm.trans e)]
        exact ⟨hh.1, h⟩
      · rw [if_neg e, if_neg fun z => e (hh.1.trans z)]
        exact hh
  · exact Paired.snoc r ⟨rfl, h⟩
theorem putD_new {kvs : List (κ × PyData)} {k : κ} (v : PyData) (h : valD kvs k = none) : putD kvs k v = kvs ++ [(k, v)] := by
  unfold putD
  rw [h]
  rfl
theorem DV.keys {K : PySem.W.Frag} {B : Hp} {kv : List (κ × V)} {kvs : List (κ × PyData)} (r : DV K B kv kvs) : kv.map (·.1) = kvs.map (·.1) := by
  induction r with
  | nil => rfl
  | @cons p q ps qs h t ih => rw [List.map_cons, List.map_cons, h.1, ih]
end
section
variable (P : Program) (w : World) (K : PySem.W.Frag)
/-- a shared dict -/
def ldR (kvs : List (Lt × PyData)) : Rp := ⟨fun v B => ∃ a kv, v = .ref a ∧ LAt P w K B B a kv ∧ DV K B kv kvs, fun s ⟨a, kv, e, h, r⟩ => ⟨a, kv, e, h.up s s, r.mono s⟩⟩
/-- an own one -/
def ldO (kvs : List (Lt × PyData)) : Ow where
  p := fun a B H => ∃ kv, LAt P w K B H a kv ∧ DV K B kv kvs
  there := fun ⟨_, h, _⟩ => h.there
  mono := fun s e ⟨kv, h, r⟩ => ⟨kv, h.mono s e, r.mono s⟩
theorem sh_ld {kvs : List (Lt × PyData)} : Shares (ldO P w K kvs) (ldR P w K kvs) := fun a B H hb ⟨kv, x, r⟩ => by
  obtain ⟨xs, ep, h1, h2, h3⟩ := x.ex
  exact ⟨_, h1, a, kv, rfl, ⟨x.lo, x.sz, xs, ep, upd_same, h2, h3.mono (same_new hb)⟩, r.mono (same_new hb)⟩
end
end Fc
/-! FcJ: sorted(..), list(..) of lists, tuples and dicts of literals. -/
namespace Fc
open PySem PySem.W PySem.Calls PySem.Spec PyProof.Rows L2
section
variable {prog : Program} {w : World} {A : Around} {E : Value → Shared → Prop} {s : Shared}
theorem collect_tup {l : Addr} {vs : List Value} {R : List Value → Shared → Prop} (hl : IsTup s.heap l vs.toArray) (hsz : vs.length ≤ sizeLine)
    (h : ∀ h', (∀ b o, s.heap.get? b = some o → h'.get? b = some o) → R vs { s with heap := h' }) : wpAny (model prog w) A (collect (.ref l)) R E s := by
  obtain ⟨o, ho, hc, n, hd⟩ := id hl
  unfold collect
  refine wpAny_bind (wpAny_runValue (codeAny_builtin entry_proto_collect' ?_))
  show wpAny _ _ (do again (.builtin "list.__iadd__" ⟨[← newList [], .ref l], []⟩)) _ _ s
  refine wpAny_bind (wpAny_newList (wpAny_pure ⟨Code.quiet_builtin _ (by decide +kernel), codeAny_builtin entry_list_iadd' ?_⟩))
  show wpAny _ _ (Builtin.List.listExtendWith (.ref s.heap.objs.size) (.ref l) (.ref s.heap.objs.size)) _ _ { s with heap := s.heap.push (seqObj "list" #[] 0) }
  unfold Builtin.List.listExtendWith
  have ho' : (s.heap.push (seqObj "list" #[] 0)).get? l = some o := Heap.get?_push_of_some _ ho
  refine wpAny_bind (wpAny_typeOf (T := "tuple") ⟨o, ho', hc⟩ ?_)
  rw [if_pos (by simp)]
  refine wpAny_bind (listItems_at ho' hd ?_)
  refine wpAny_bind (listItems_at (xs := #[]) (n := 0) (Heap.get?_push_size _ rfl) rfl ?_)
  rw [if_neg (by simp)]
  refine wpAny_bind (listUpdate_at (xs := #[]) (n := 0) (Heap.get?_push_size _ rfl) rfl ?_ (Nat.zero_le _) (by show (#[] ++ vs.toArray).size ≤ sizeLine + 1; simp only [Array.size_append, List.size_toArray, List.length_nil]; omega))
  refine wpAny_pure ?_
  show wpAny (model prog w) A (do
      let o ← load s.heap.objs.size
      match o.data with
      | .seq xs _ => pure xs.toList
      | _ => unsupported "internal:collect") R E { s with heap := (s.heap.push (seqObj "list" #[] 0)).update s.heap.objs.size (Obj.mapSeq (· ++ vs.toArray)) }
  refine wpAny_bind (wpAny_load (get?_update_seq (Heap.get?_push_size _ rfl) _) ?_)
  show wpAny _ _ (pure ((#[] : Array Value) ++ vs.toArray).toList) R E _
  rw [show ((#[] : Array Value) ++ vs.toArray).toList = vs by simp]
  exact wpAny_pure (h _ fun b o e => (Heap.get?_update_other _ _ (Nat.ne_of_gt (Heap.lt_size e))).trans (Heap.get?_push_of_some _ e))
/-- r can be collected: what is collected is Good -/
def Coll (prog : Program) (w : World) (A : Around) (s : Shared) (r : Value) (Good : List Value → Prop) : Prop := ∀ (E : Value → Shared → Prop) (R : List Value → Shared → Prop),
  (∀ (h' : Heap) (dr) (tk : Nat) (vs : List Value), (∀ b o, s.heap.get? b = some o → h'.get? b = some o) → Good vs → R vs { s with heap := h', drawn := dr, toks := tk }) → wpAny (model prog w) A (collect r) R E s
theorem coll_list {l : Addr} {vs : List Value} (hl : s.heap.IsList l vs.toArray) (hsz : vs.length ≤ sizeLine) : Coll prog w A s (.ref l) (fun us => us = vs) := fun E R h =>
  collect_list hl (h _ s.drawn s.toks _ (fun b o e => (Heap.get?_update_other _ _ (Nat.ne_of_gt (Heap.lt_size e))).trans (Heap.get?_push_of_some _ e)) rfl) hsz
theorem coll_tup {l : Addr} {vs : List Value} (hl : IsTup s.heap l vs.toArray) (hsz : vs.length ≤ sizeLine) : Coll prog w A s (.ref l) (fun us => us = vs) := fun E R h =>
  collect_tup hl hsz fun h' hk => h h' s.drawn s.toks _ hk rfl
theorem coll_dict {d : Addr} {es : Array DictEntry} {ep : Nat} (hh : A.handled = none) (lo : (d == sysModules) = false) (hd : s.heap.DictRaw d es ep) (hsz : es.size ≤ sizeLine) : Coll prog w A s (.ref d) (fun us => us = es.toList.map (·.key)) := fun E R h =>
  kdu_collect (KdlSrc.rawDict lo) hh hd hsz fun h' tk acc hk hacc => h h' s.drawn tk _ hk (by
    refine List.ext_getElem? fun i => ?_
    rw [Array.getElem?_toList, List.getElem?_map, Array.getElem?_toList]
    by_cases hi : i < es.size
    · have hi' : i < acc.size := by rw [hacc.1]; exact hi
      have e := Array.getElem?_eq_getElem hi'
      obtain ⟨hj, hv⟩ := hacc.2 i _ e
      rw [e, hv, Array.getElem?_eq_getElem hi]
      rfl
    · rw [Array.getElem?_eq_none (by rw [hacc.1]; omega), Array.getElem?_eq_none (by omega)]
      rfl)
theorem sorted_coll {r : Value} {Good : List Value → Prop} {Q : Value → Shared → Prop} (hc : Coll prog w A.in1 s r Good)
    (h : ∀ (h' : Heap) (dr) (tk : Nat) (vs : List Value), (∀ b o, s.heap.get? b = some o → h'.get? b = some o) → Good vs → vs.length ≤ sizeLine ∧
      wpAny (model prog w) A.in1 (call (.builtin "list.sort") [.ref h'.objs.size]) (fun _ s' => Q (.ref h'.objs.size) s') E { s with heap := h'.push (seqObj "list" vs.toArray 0), drawn := dr, toks := tk }) :
    wpAny (model prog w) A (call (.builtin "sorted") [r]) Q E s := by
  refine call_function_entry kind_sorted plain_sorted entry_sorted (args_sorted1 _) ?_
  unfold Builtin.«sorted»
  refine wpAny_bind (m := checkCount "sorted" 1 1 _) (wpAny_pure ?_)
  refine wpAny_bind (hc _ _ fun h' dr tk vs hk hg => ?_)
  obtain ⟨hl, hs⟩ := h h' dr tk vs hk hg
  refine wpAny_bind (wpAny_newList ?_ hl)
  exact wpAny_bind (wpAny_holding (thn hs fun _ s' x => wpAny_pure ⟨_, rfl, x⟩))
end
mutual
theorem reads_lt {h : Heap} : ∀ (d : PyData) (v : Value) (as : List Addr), Reads h v d as → alike d d = true → ∀ a ∈ as, a < h.objs.size
  | .none, _, _, r, _, a, ha => by cases r; cases ha
  | .bool _, _, _, r, _, a, ha => by cases r; cases ha
  | .int _, _, _, r, _, a, ha => by cases r; cases ha
  | .str _, _, _, r, _, a, ha => by cases r; cases ha
  | .list xs, _, _, r, q, a, ha => by
    cases r with
    | list h1 h2 h3 h4 =>
      rcases List.mem_cons.mp ha with rfl | ha
      · exact Heap.lt_size h1
      · exact readsAll_lt xs _ _ h4 (by simpa [alike] using q) a ha
  | .tuple xs, _, _, r, q, a, ha => by
    cases r with
    | tuple h1 h2 h3 h4 => exact readsAll_lt xs _ _ h4 (by simpa [alike] using q) a ha
  | .dict _, _, _, _, q, _, _ => by simp [alike] at q
theorem readsAll_lt {h : Heap} : ∀ (ds : List PyData) (vs : List Value) (as : List Addr), ReadsAll h vs ds as → alikeAll ds ds = true → ∀ a ∈ as, a < h.objs.size
  | [], _, _, r, _, a, ha => by cases r; cases ha
  | d :: ds, _, _, r, q, a, ha => by
    cases r with
    | cons h1 h2 =>
      rw [alikeAll, Bool.and_eq_true] at q
      rcases List.mem_append.mp ha with ha | ha
      · exact reads_lt d _ _ h1 q.1 a ha
      · exact readsAll_lt ds _ _ h2 q.2 a ha
end
/-- the items of data, in Python's order -/
def sortD (ds : List PyData) : List PyData := ds.mergeSort (dataLe false fun d => d)
/-- data that can be sorted -/
structure CanSort (ds : List PyData) : Prop where
  al : AllAlike ds
  so : Sortable ds
  few : ds.length ≤ 1000000
  low : ∀ d ∈ ds, d.depth ≤ 16
section
variable {X : Cx} {pins : List (Addr × Obj)} {σ : L2.St} {H : Hp} {s : Shared}
/-- what was drawn is not asked -/
theorem _root_.L2.Inv.drawn {dr} (I : Inv X pins σ H s) : Inv X pins σ H { s with drawn := dr } := ⟨I.ok, I.os, I.bare, I.base, I.loc, I.cell, I.free, I.freeC, I.pin, I.hok, I.len⟩
theorem each_of {K : PySem.W.Frag} {T : Hp} : ∀ {ds : List PyData} {xs : List V} {vs : List Value}, DpAll K T xs ds → Vals xs vs → EachIs (fun v d => ∃ x, RelV x v ∧ Dp K T x d) vs ds
  | _, _, _, .nil, .nil => .nil
  | _, _, _, .cons h t, .cons r q => .cons ⟨_, r, h⟩ (each_of t q)
theorem of_each {K : PySem.W.Frag} {T : Hp} : ∀ {ds : List PyData} {vs : List Value}, EachIs (fun v d => ∃ x, RelV x v ∧ Dp K T x d) vs ds → ∃ xs, Vals xs vs ∧ DpAll K T xs ds
  | _, _, .nil => ⟨[], .nil, .nil⟩
  | _, _, .cons ⟨x, r, h⟩ t => let ⟨xs, q1, q2⟩ := of_each t; ⟨x :: xs, .cons r q1, .cons h q2⟩
theorem sort_list {Q : Value → Shared → Prop} {E : Value → Shared → Prop} {A : Around} {h' : Heap} {tk : Nat} {ds : List PyData} {xs : List V} {vs : List Value} (hu : A.units + 64 < cLine) (I : Inv X pins σ H s) {T : Hp} (sT : Same T H) (hk : ∀ b o, s.heap.get? b = some o → h'.get? b = some o) (hdT : DpAll X.K T xs ds) (hv : Vals xs vs) (C : CanSort ds)
    (h : ∀ s' xs', H h'.objs.size = none → DpAll X.K T xs' (sortD ds) → Inv X pins σ (upd H h'.objs.size (.lst xs')) s' → Q (.ref h'.objs.size) s') :
    wpAny (model X.prog X.w) A (call (.builtin "list.sort") [.ref h'.objs.size]) (fun _ s' => Q (.ref h'.objs.size) s') E { s with heap := h'.push (seqObj "list" vs.toArray 0), toks := tk } := by
  have hd : DpAll X.K H xs ds := dps_mono sT _ _ hdT
  have hlen : xs.length = ds.length := dps_len hd
  have hvl := Paired.length hv
  have I1 : Inv X pins σ H { s with heap := h', toks := tk } := I.kept hk
  have hp := I1.fresh
  have ho : (h'.push (seqObj "list" vs.toArray 0)).get? h'.objs.size = some (seqObj "list" vs.toArray 0) := Heap.get?_push_size _ rfl
  have er : EachIs (fun v d => ∃ as, Reads (h'.push (seqObj "list" vs.toArray 0)) v ((fun d : PyData => d) d) as ∧ h'.objs.size ∉ as) vs ds := by
    have key : ∀ {ds : List PyData} {xs : List V} {vs : List Value}, (∀ d ∈ ds, alike d d = true) → DpAll X.K H xs ds → Vals xs vs → EachIs (fun v d => ∃ as, Reads (h'.push (seqObj "list" vs.toArray 0)) v d as ∧ h'.objs.size ∉ as) vs ds ∨ True := fun _ _ _ => .inr trivial
    have go : ∀ (o : Obj) {ds : List PyData} {xs : List V} {us : List Value}, (∀ d ∈ ds, alike d d = true) → DpAll X.K H xs ds → Vals xs us → EachIs (fun v d => ∃ as, Reads (h'.push o) v d as ∧ h'.objs.size ∉ as) us ds := by
      intro o ds
      induction ds with
      | nil =>
        intro xs us _ h1 h2
        cases h1
        cases h2
        exact .nil
      | cons d ds ih =>
        intro xs us ha h1 h2
        cases h1 with
        | cons h1 t1 =>
          cases h2 with
          | cons r t2 =>
            obtain ⟨as, q⟩ := Dp.reads I1 d _ _ h1 r
            refine .cons ⟨as, PyProof.Rows.Reads.keeps (fun _ _ e => Heap.get?_push_of_some _ e) q, fun hm => ?_⟩ (ih (fun e he => ha e (List.mem_cons_of_mem _ he)) t1 t2)
            exact absurd (reads_lt d _ _ q (ha d List.mem_cons_self) _ hm) (Nat.lt_irrefl _)
    exact go _ (fun d hd => C.al d hd d hd) hd hv
  refine list_sort_data (s := { s with heap := h'.push (seqObj "list" vs.toArray 0), toks := tk }) (R := fun v d => ∃ x, RelV x v ∧ Dp X.K T x d) (enc := fun d => d) (bs := ds) ho (each_of hdT hv) er (by rw [List.map_id']; exact C.al) (by rw [List.map_id']; exact C.so) (small_sz C.few) (fun d hd => by have := C.low d hd; show A.units + 1 + d.depth < cLine; omega) fun out hol he => ?_
  obtain ⟨xs', r1, r2⟩ := of_each he
  obtain ⟨e, hat⟩ := sortedHeap_at (out := out.toArray) ho
  refine h _ xs' hp r2 (I1.laid (t' := tk) (fun b o q => ?_) (Nat.le_refl _) ⟨?_, out, e, r1, hat⟩)
  · have hlt : b < h'.objs.size := Heap.lt_size q
    show (sortedHeap _ _ _ _).get? b = some o
    rw [sortedHeap_old (Nat.ne_of_lt hlt) (by rw [size_push']; exact Nat.lt_succ_of_lt hlt)]
    exact Heap.get?_push_of_some _ q
  · rw [Paired.length r1, hol]
    exact small_sz C.few
/-- what is sorted: a list, a tuple, the keys of a dict of literals -/
inductive Src (P : Program) (w : World) (K : PySem.W.Frag) (T H : Hp) : V → List PyData → Prop
  | lst {v : V} {ds : List PyData} : Dp K T v (.list ds) → Src P w K T H v ds
  | tup {v : V} {ds : List PyData} : Dp K T v (.tuple ds) → Src P w K T H v ds
  | dic {a : Addr} {kv : List (Lt × V)} : LAt P w K T H a kv → Src P w K T H (.ref a) (kv.map fun p => litD p.1)
theorem keys_vals {K : PySem.W.Frag} {T : Hp} : ∀ {kv : List (Lt × V)} {xs : Raw} {es : List DictEntry} {kd : HeapKind X.prog X.w (List Leaf)}, KL K T kv xs → es = (xs.map rawL).map (entryOfKey kd) → ∃ ys, Vals ys (es.map (·.key)) ∧ DpAll K T ys (kv.map fun p => litD p.1)
  | [], _, es, _, .nil, e => by subst e; exact ⟨[], .nil, .nil⟩
  | p :: kv, x :: xs, es, kd, .cons h t, e => by
    obtain ⟨ys, q1, q2⟩ := keys_vals t (rfl : (xs.map rawL).map (entryOfKey kd) = _)
    subst e
    exact ⟨.ref x.2.1 :: ys, .cons rfl q1, .cons (.tup h.2.1 (.cons (.str _) (.cons (.bl _) .nil))) q2⟩
theorem src_coll {A : Around} {v : V} {u : Value} {ds : List PyData} (hh : A.handled = none) (I : Inv X pins σ H s) {T : Hp} (sT : Same T H) (rv : RelV v u) (h : Src X.prog X.w X.K T H v ds) (few : ds.length ≤ 1000000) : Coll X.prog X.w A s u (fun us => ∃ xs, Vals xs us ∧ DpAll X.K T xs ds) := by
  cases h with
  | lst h =>
    obtain ⟨a, xs, rfl, h1, h2⟩ := dp_list h
    obtain rfl : u = Value.ref a := rv
    obtain ⟨its, r, pl, hz⟩ := I.list (same_l sT h1)
    exact fun E R k => coll_list pl.isList (by rw [← Paired.length r, dps_len h2]; exact small_sz few) E R fun h' dr tk vs hk e => k h' dr tk vs hk ⟨xs, by rw [e]; exact r, h2⟩
  | tup h =>
    obtain ⟨a, xs, rfl, h1, h2⟩ := dp_tup h
    obtain rfl : u = Value.ref a := rv
    obtain ⟨its, r, pl, hz⟩ := I.tuple (same_t sT h1)
    exact fun E R k => coll_tup pl (by rw [← Paired.length r, dps_len h2]; exact small_sz few) E R fun h' dr tk vs hk e => k h' dr tk vs hk ⟨xs, by rw [e]; exact r, h2⟩
  | @dic a kv x =>
    obtain rfl : u = Value.ref a := rv
    obtain ⟨xs, ep, h1, h2, h3⟩ := x.ex
    obtain ⟨⟨o, es, g1, g2, g3, g4⟩, _, _⟩ := (show ObjOk X.prog X.w H s.heap a (ldX X.prog X.w a xs ep) from I.hok a _ h1)
    obtain ⟨ys, q1, q2⟩ := keys_vals h3 g4
    have hsz : es.size ≤ sizeLine := by
      have := congrArg List.length g4
      rw [List.length_map, List.length_map, Array.length_toList, ← Paired.length h3] at this
      rw [this]
      rw [List.length_map] at few
      exact small_sz few
    exact fun E R k => coll_dict hh x.lo ⟨o, g1, g2, g3⟩ hsz E R fun h' dr tk vs hk e => k h' dr tk vs hk ⟨ys, by rw [e]; exact q1, q2⟩
def rSortD (P : Program) (w : World) (K : PySem.W.Frag) : List V → Hp → VK → Prop := fun vs H Q => ∃ T v ds, vs = [v] ∧ Same T H ∧ Src P w K T H v ds ∧ CanSort ds ∧ ∀ p xs', H p = none → DpAll K T xs' (sortD ds) → Q (.ref p) (upd H p (.lst xs'))
theorem call_sortD (hc : X.calm = true) (hu : X.A.units + 128 < cLine) : CallR X (.builtin "sorted") (rSortD X.prog X.w X.K) := by
  intro pins s σ H xs us Q I r ⟨T, v, ds, e, sT, hs, C, q⟩
  subst e
  obtain ⟨u, rfl, ru⟩ := vals1 r
  refine sorted_coll (src_coll (A := X.A.in1) (I.ok.hd hc) I sT ru hs C.few) fun h' dr tk vs hk ⟨ys, q1, q2⟩ => ⟨by rw [← Paired.length q1, dps_len q2]; exact small_sz C.few, ?_⟩
  refine sort_list (s := { s with drawn := dr }) (by show X.A.units + 1 + 64 < cLine; omega) I.drawn sT hk q2 q1 C fun s' xs' hp hd I' => ⟨.ref h'.objs.size, _, I', rfl, q _ _ hp hd⟩
end
end Fc
/-! FcS: set(xs) of a list or a tuple, for any kind of members. -/
namespace Fc
open PySem PySem.Spec PyProof.Rows L2

/-- a set's first object -/
abbrev set0 (w : World) : Obj := { cls := .type "set", dict := none, data := .set #[] 0 (.fresh 0 0 (!w.params.followText "set-order")) }
/-- a kind of members: what they are, when a set holds just these, how one is added -/
structure SK (P : Program) (w : World) where
  κ : Type
  is : Heap → κ → Value → Prop
  St : Heap → Addr → List (κ × Value) → Prop
  keepIs : ∀ {h h' : Heap} {k : κ} {v : Value}, (∀ c o, h.get? c = some o → h'.get? c = some o) → is h k v → is h' k v
  off : ∀ {h h' : Heap} {k : κ} {v : Value} {a : Addr} {L : List (κ × Value)}, is h k v → St h a L → Heap.SameBut a h h' → is h' k v
  keep : ∀ {h h' : Heap} {a : Addr} {L : List (κ × Value)}, (∀ o, h.get? a = some o → h'.get? a = some o) → St h a L → St h' a L
  fresh : ∀ {h : Heap} {a : Addr}, h.get? a = some (set0 w) → St h a []
  add : ∀ {A : Around} {E : Value → Shared → Prop} {s : Shared} {a : Addr} {L : List (κ × Value)} {k : κ} {v : Value} {Q : Bool → Shared → Prop}, A.units + 4 < cLine → St s.heap a L → (∀ p ∈ L, is s.heap p.1 p.2) → is s.heap k v → L.length + 1 < 64 →
    (∀ b h' L' tk, Heap.SameBut a s.heap h' → St h' a L' → ((∃ p ∈ L, p.1 = k) → L' = L) → ((∀ p ∈ L, p.1 ≠ k) → L'.Perm ((k, v) :: L)) → s.toks ≤ tk → Q b { s with heap := h', toks := tk }) → wpAny (model P w) A (setAdd a v) Q E s
  raw : ∀ {h : Heap} {a : Addr} {L : List (κ × Value)}, St h a L → ∃ o es ep t, h.get? a = some o ∧ o.ExactSet ∧ o.data = .set es ep t ∧ t.fits es.size = true ∧ es.size < scanBound ∧ Ris t.place.toList ∧ (w.params.followText "set-order" = true ∨ t.led = true) ∧ (es.toList.map (·.2)).Perm (L.map (·.2))
  nodup : ∀ {h : Heap} {a : Addr} {L : List (κ × Value)}, St h a L → (L.map (·.1)).Nodup
  byText : ∀ {h h' : Heap} {a : Addr} {L : List (κ × Value)}, St h a L → h'.get? a = h.get? a → St h' a L

section
variable {P : Program} {w : World} (S : SK P w)
/-- L is made of ks -/
structure Dd (ks L : List (S.κ × Value)) : Prop where
  sub : ∀ p ∈ L, p ∈ ks
  all : ∀ p ∈ ks, ∃ q ∈ L, q.1 = p.1
  len : L.length ≤ ks.length
theorem Dd.nil : Dd S [] [] := ⟨fun _ h => (nomatch h), fun _ h => (nomatch h), Nat.le_refl _⟩
variable {S}
theorem Dd.same {ks L : List (S.κ × Value)} {p : S.κ × Value} (d : Dd S ks L) (h : ∃ q ∈ L, q.1 = p.1) : Dd S (ks ++ [p]) L where
  sub := fun q hq => List.mem_append_left _ (d.sub q hq)
  all := fun q hq => by
    rcases List.mem_append.mp hq with z | z
    · exact d.all q z
    · rw [List.mem_singleton.mp z]; exact h
  len := by have := d.len; rw [List.length_append]; omega
theorem Dd.more {ks L L' : List (S.κ × Value)} {p : S.κ × Value} (d : Dd S ks L) (h : L'.Perm (p :: L)) : Dd S (ks ++ [p]) L' where
  sub := fun q hq => by
    rcases List.mem_cons.mp (h.mem_iff.mp hq) with z | z
    · rw [z]; exact List.mem_append_right _ (List.mem_singleton.mpr rfl)
    · exact List.mem_append_left _ (d.sub q z)
  all := fun q hq => by
    rcases List.mem_append.mp hq with z | z
    · obtain ⟨r, h1, h2⟩ := d.all q z
      exact ⟨r, h.mem_iff.mpr (List.mem_cons_of_mem _ h1), h2⟩
    · rw [List.mem_singleton.mp z]; exact ⟨p, h.mem_iff.mpr List.mem_cons_self, rfl⟩
  len := by have := d.len; rw [List.length_append, h.length_eq, List.length_cons, List.length_singleton]; omega
end
section
variable {P : Program} {w : World} {S : SK P w} {A : Around} {E : Value → Shared → Prop} {s : Shared}
/-- the items, one by one -/
theorem set_loop {I : Addr} {fp wr : List Addr} {G : Array GenState → Array GenState → Prop} {n : Nat} {Pv : Nat → Value → Prop} {Si : Nat → Shared → Prop} {R : Result → Shared → Prop} (W : WalksS P w A.in1 I fp wr G n Pv Si) {D : Addr} (hD : D ∉ fp) {ks : List (S.κ × Value)} (hn : n = ks.length) (few : ks.length < 64)
    (hv : ∀ i v, Pv i v → ∃ k, ks[i]? = some (k, v)) {h0 : Heap} (hk : ∀ p ∈ ks, S.is h0 p.1 p.2) (hw0 : ∀ b ∈ D :: wr, h0.get? b = none) (hu : A.units + 8 < cLine)
    (fin : ∀ s' L, (∀ b o, h0.get? b = some o → s'.heap.get? b = some o) → (∃ sa, Moved (D :: wr) G sa s' ∧ sa.gens = s.gens ∧ sa.drawn = s.drawn ∧ sa.os = s.os) → S.St s'.heap D L → Dd S ks L → R (.ok (.ret .none)) s') :
    ∀ (m i : Nat) (sc : Shared) (L : List (S.κ × Value)), n - i = m → i ≤ n → Si i sc → (∀ b o, h0.get? b = some o → sc.heap.get? b = some o) → (∃ sa, Moved (D :: wr) G sa sc ∧ sa.gens = s.gens ∧ sa.drawn = s.drawn ∧ sa.os = s.os) → S.St sc.heap D L → Dd S (ks.take i) L →
      codeAny (model P w) A (.builtin "set.update.loop" ⟨[.ref D, .ref I], []⟩) R sc := by
  have hDw : D ∉ wr := fun h => hD (W.sub _ h)
  have up : ∀ {a b : Shared}, Moved wr G a b → Moved (D :: wr) G a b := fun m => ⟨fun b o hb => m.heap b o fun z => hb (List.mem_cons_of_mem _ z), m.gens, m.drawn, m.os, m.toks⟩
  have h0up : ∀ {a b : Shared}, Moved wr G a b → (∀ b o, h0.get? b = some o → a.heap.get? b = some o) → ∀ c o, h0.get? c = some o → b.heap.get? c = some o := fun m q c o e =>
    m.heap c o (fun z => by rw [hw0 c (List.mem_cons_of_mem _ z)] at e; cases e) (q c o e)
  have seq : ∀ {a b : Shared}, (∃ sa, Moved (D :: wr) G sa a ∧ sa.gens = s.gens ∧ sa.drawn = s.drawn ∧ sa.os = s.os) → Moved (D :: wr) G a b → ∃ sa, Moved (D :: wr) G sa b ∧ sa.gens = s.gens ∧ sa.drawn = s.drawn ∧ sa.os = s.os := fun ⟨sa, m, q⟩ m2 => ⟨sa, Moved.trans W.gtrans m m2, q⟩
  intro m
  induction m with
  | zero =>
    intro i sc L hm hi hst hb hmv hS g
    obtain rfl : i = n := by omega
    refine codeAny_builtin F.entry_set_update_loop ?_
    rw [Around.under_plainId F.plain_set_update_loop _]
    refine wpAny_bind (W.done sc _ _ hst fun s' mv => ?_)
    refine wpAny_pure (fin s' L (h0up mv hb) (seq hmv (up mv)) (S.keep (fun o e => mv.heap D o hDw e) hS) ?_)
    rw [hn, List.take_length] at g
    exact g
  | succ m ih =>
    intro i sc L hm hi hst hb hmv hS g
    have hlt : i < n := by omega
    refine codeAny_builtin F.entry_set_update_loop ?_
    rw [Around.under_plainId F.plain_set_update_loop _]
    refine wpAny_bind (W.item i sc _ _ hlt hst fun v s' hP hst' mv => ?_)
    obtain ⟨k, hki⟩ := hv i v hP
    have hb' := h0up mv hb
    have hS' : S.St s'.heap D L := S.keep (fun o e => mv.heap D o hDw e) hS
    have hin : ∀ p ∈ L, p ∈ ks := fun p hp => List.mem_of_mem_take (g.sub p hp)
    have hnext : ks.take (i + 1) = ks.take i ++ [(k, v)] := by rw [List.take_succ, hki]; rfl
    refine wpAny_bind (wpAny_holding (S.add (a := D) (k := k) (by show A.units + 1 + 4 < cLine; omega) hS' (fun p hp => S.keepIs hb' (hk p (hin p hp))) (S.keepIs hb' (hk _ (List.mem_of_getElem? hki))) (by have h1 := g.len; rw [List.length_take] at h1; omega) fun b h' L' tk sb hS2 c1 c2 ht => ?_))
    have g' : Dd S (ks.take (i + 1)) L' := by
      rw [hnext]
      rcases Classical.em (∃ p ∈ L, p.1 = k) with c | c
      · rw [c1 c]; exact g.same c
      · exact g.more (c2 fun p hp e => c ⟨p, hp, e⟩)
    have mv2 : Moved (D :: wr) G s' { s' with heap := h', toks := tk } := ⟨fun b o hb e => by
      show h'.get? b = some o
      rw [sb.2 b fun z => hb (by rw [z]; exact List.mem_cons_self)]
      exact e, W.grefl _, rfl, rfl, ht⟩
    refine wpAny_pure ⟨plainId_quiet F.plain_set_update_loop _, ih (i + 1) _ L' (by omega) hlt (W.frame _ s' _ _ hst' ht fun b hb o e => ?_) (fun b o e => ?_) (seq (seq hmv (up mv)) mv2) hS2 g'⟩
    · rw [sb.2 b fun h : b = D => hD (by rw [← h]; exact hb)]
      exact e
    · show h'.get? b = some o
      rw [sb.2 b fun z => by rw [z, hw0 D List.mem_cons_self] at e; cases e]
      exact hb' b o e

/-- what set(..) is asked of: a list or a tuple -/
def IsSq (h : Heap) (l : Addr) (items : Array Value) : Prop := h.IsList l items ∨ h.IsTuple l items
theorem IsSq.push {h : Heap} {l : Addr} {items : Array Value} (x : IsSq h l items) (o : Obj) : IsSq (h.push o) l items := x.imp (·.push o) (·.push o)
theorem iter_sq {l : Addr} {items : Array Value} {Q : Value → Shared → Prop} (hl : IsSq s.heap l items)
    (h : ∀ (o : Obj) (St : Nat → Shared → Prop), (∀ A' : Around, A'.handled = none → WalksS P w A' s.heap.objs.size [s.heap.objs.size, l] [s.heap.objs.size] (fun a b => b = a) items.size (fun i v => items[i]? = some v) St) → St 0 { s with heap := s.heap.push o } → Q (.ref s.heap.objs.size) { s with heap := s.heap.push o }) :
    wpAny (model P w) A (pyIter (.ref l)) Q E s := by
  rcases hl with x | x
  · have hne : l ≠ s.heap.objs.size := Nat.ne_of_lt (let ⟨_, e, _⟩ := x; Heap.lt_size e)
    exact wpAny_pyIter_list x (h _ _ (fun A' hh => (Walks.list hh _ l hne items).toS) ⟨⟨_, Heap.get?_push_size _ rfl, rfl, rfl⟩, x.push _⟩)
  · have hne : l ≠ s.heap.objs.size := Nat.ne_of_lt (let ⟨_, e, _⟩ := x; Heap.lt_size e)
    exact wpAny_pyIter_tuple x (h _ _ (fun A' hh => (Walks.tuple hh _ l hne items).toS) ⟨⟨_, Heap.get?_push_size _ rfl, rfl, rfl⟩, x.push _⟩)
theorem call_set {l : Addr} {items : Array Value} {ks : List (S.κ × Value)} {Q : Value → Shared → Prop} (hh : A.handled = none) (hl : IsSq s.heap l items) (hit : items.toList = ks.map (·.2)) (hk : ∀ p ∈ ks, S.is s.heap p.1 p.2) (few : ks.length < 64) (hu : A.units + 16 < cLine)
    (h : ∀ (h' : Heap) (tk : Nat) (L : List (S.κ × Value)), (∀ b o, s.heap.get? b = some o → h'.get? b = some o) → S.St h' s.heap.objs.size L → Dd S ks L → Q (.ref s.heap.objs.size) { s with heap := h', toks := tk }) :
    wpAny (model P w) A (call (.type "set") [.ref l]) Q E s := by
  obtain ⟨T, hT, ol, hol, hcl, n, hdl⟩ : ∃ T, (T = "list" ∨ T = "tuple") ∧ ∃ o, s.heap.get? l = some o ∧ o.cls = .type T ∧ ∃ n, o.data = .seq items n := by
    rcases hl with ⟨o, h1, h2, n, h3⟩ | ⟨o, h1, h2, n, h3⟩
    · exact ⟨_, .inl rfl, o, h1, h2, n, h3⟩
    · exact ⟨_, .inr rfl, o, h1, h2, n, h3⟩
  have no1 : isSubtype (.type T) (.type "set") = pure false := by rcases hT with rfl | rfl <;> (rw [isSubtype_type]; kernel_rfl)
  have no2 : isSubtype (.type T) (.type "frozenset") = pure false := by rcases hT with rfl | rfl <;> (rw [isSubtype_type]; kernel_rfl)
  have no3 : (Value.type T == Value.type "dict") = false := by rcases hT with rfl | rfl <;> decide
  have hsz : items.size = ks.length := by rw [← Array.length_toList, hit, List.length_map]
  obtain ⟨c, tl, hmro⟩ := F.called_set.mro
  have k1 := F.called_set.made
  have k2 := F.called_set.sub
  have k3 := F.called_set.notType
  have k4 := F.called_set.canCreate
  have k5 := F.typeCall_set_1 (.ref l)
  refine wpAny_call (codeAny_of_tree ?_)
  show wpAny _ _ (callAny (.type "set") _) _ _ _
  refine wpAny_pure ⟨Code.quiet_builtin _ (by decide +kernel), codeAny_builtin F.entry_type_call ?_⟩
  rw [Around.under_plain (weight_type_call_type "set" [.ref l] []) rfl]
  repeat (any_goals (first | assumption | wp_step))
  refine codeAny_mono (code_set_led1 (.ref l) (E := E) (Q₁ := fun obj s₁ => obj = .ref s.heap.objs.size ∧ s₁ = { s with heap := s.heap.push (set0 w) }) ⟨rfl, rfl⟩) fun r s₁ hr => ?_
  rcases r with e | fl
  · exact hr
  cases fl with
  | ret obj => ?_
  | _ => exact hr.elim
  obtain ⟨rfl, rfl⟩ := hr
  have hS : (s.heap.push (set0 w)).get? s.heap.objs.size = some (set0 w) := Heap.get?_push_size _ rfl
  have hSt : Shared.TypeIs { s with heap := s.heap.push (set0 w) } (.ref s.heap.objs.size) "set" := ⟨_, hS, rfl⟩
  have k6 := F.called_set.init.lookup
  have k7 := F.called_set.init.bind (.ref s.heap.objs.size)
  repeat (any_goals (first | assumption | wp_step))
  refine codeAny_mono (codeAny_call_builtin (R := wants (fun r s₂ => r = .none ∧ ∃ h' tk L, s₂ = { s with heap := h', toks := tk } ∧ (∀ b o, s.heap.get? b = some o → h'.get? b = some o) ∧ S.St h' s.heap.objs.size L ∧ Dd S ks L) E) F.called_set.init.plain F.entry_set_init (check_set_init_1 hSt ?_)) fun r₂ s₂ hr₂ => ?_
  · have hol' : (s.heap.push (set0 w)).get? l = some ol := Heap.get?_push_of_some _ hol
    have hlT : Shared.TypeIs { s with heap := s.heap.push (set0 w) } (.ref l) T := ⟨_, hol', hcl⟩
    obtain ⟨ocls, odict, odata, oslots⟩ := ol
    simp only at hcl hdl
    subst hcl; subst hdl
    unfold Builtin.«set.__init__» noKeywords Builtin.Frozenset.updateFrom
    generalize hPI : pyIter = PI
    wp_walk
    subst hPI
    have nD : ∀ b, s.heap.objs.size ≤ b → s.heap.get? b = none := fun b hb => by
      cases q : s.heap.get? b with
      | none => rfl
      | some o => exact absurd (Nat.lt_of_lt_of_le (Heap.lt_size q) hb) (Nat.lt_irrefl _)
    refine iter_sq (hl.push _) fun o St W st0 => ?_
    have hz : (s.heap.push (set0 w)).objs.size = s.heap.objs.size + 1 := Heap.size_push ..
    have hne : s.heap.objs.size ≠ l := Nat.ne_of_gt (Heap.lt_size hol)
    refine wpAny_bind (wpAny_runValue ?_)
    refine set_loop (S := S) (s := s) (W _ (by simp [hh])) (D := s.heap.objs.size) ?_ (ks := ks) hsz few (fun i v hi => ?_) (h0 := s.heap) hk (fun b hb => ?_) (by show A.units + 1 + 1 + 8 < cLine; omega) ?_ (items.size - 0) 0 _ [] rfl (Nat.zero_le _) st0 (fun b o e => Heap.get?_push_of_some _ (Heap.get?_push_of_some _ e)) ⟨_, ⟨fun _ _ _ e => e, rfl, rfl, rfl, Nat.le_refl _⟩, rfl, rfl, rfl⟩ (S.fresh (Heap.get?_push_of_some _ hS)) (by rw [List.take_zero]; exact Dd.nil S)
    · rw [show ({ s with heap := s.heap.push (set0 w) } : Shared).heap.objs.size = s.heap.objs.size + 1 from hz]
      intro hm
      rcases List.mem_cons.mp hm with e | hm
      · exact absurd e (Nat.ne_of_lt (Nat.lt_succ_self _))
      · exact hne (List.mem_singleton.mp hm)
    · have q : items.toList[i]? = some v := by rw [Array.getElem?_toList]; exact hi
      rw [hit, List.getElem?_map] at q
      cases e : ks[i]? with
      | none => rw [e] at q; cases q
      | some p => rw [e] at q; cases q; exact ⟨p.1, rfl⟩
    · refine nD b ?_
      simp only [List.mem_cons, List.not_mem_nil, or_false] at hb
      rcases hb with rfl | rfl
      · exact Nat.le_refl _
      · show s.heap.objs.size ≤ (s.heap.push (set0 w)).objs.size
        omega
    · intro s' L hb ⟨sa, mv, e1, e2, e3⟩ hSt' g
      refine wpAny_pure ?_
      refine wpAny_pure ⟨rfl, s'.heap, s'.toks, L, ?_, hb, hSt', g⟩
      obtain ⟨h', g', d', tk', os'⟩ := s'
      have f1 : g' = s.gens := mv.gens.trans e1
      have f2 : d' = s.drawn := mv.drawn.trans e2
      have f3 : os' = s.os := mv.os.trans e3
      subst f1; subst f2; subst f3
      rfl
  · rcases r₂ with e | fl
    · exact hr₂
    cases fl with
    | ret r => ?_
    | _ => exact hr₂.elim
    obtain ⟨rfl, h', tk, L, rfl, hb, hS', g⟩ := hr₂
    repeat (any_goals (first | assumption | wp_step))
    exact h _ _ _ hb hS' g
end
end Fc
/-! FcSa: sets of texts. -/
namespace Fc
open PySem PySem.Spec PyProof.Rows L2
section
variable {P : Program} {w : World}
/-- the entries -/
def rowS (P : Program) (w : World) (p : Str × Value) : Int × Value := ((PySem.strKind P w).hash p.1, p.2)
structure StS (P : Program) (w : World) (h : Heap) (a : Addr) (L : List (Str × Value)) : Prop where
  ex : ∃ o es ep t, h.get? a = some o ∧ o.ExactSet ∧ o.data = .set es ep t ∧ es.toList.Perm (L.map (rowS P w)) ∧ t.fits es.size = true ∧ Ris t.place.toList ∧ (w.params.followText "set-order" = true ∨ t.led = true)
  txt : ∀ p ∈ L, ∃ tk, p.2 = .str p.1 tk
  nd : (L.map (·.1)).Nodup
  few : L.length < 64
theorem str_is (k : Str) {v : Value} (h : ∃ tk, v = .str k tk) : (PySem.strKind P w).is k v = true := by obtain ⟨tk, rfl⟩ := h; exact strKind_is _ _ _ _
theorem is_str {k k' : Str} {v : Value} (h : ∃ tk, v = .str k tk) (e : (PySem.strKind P w).is k' v = true) : k = k' := by
  obtain ⟨tk, rfl⟩ := h
  have : Value.isStr (.str k tk) k' = true := e
  unfold Value.isStr at this
  exact beq_iff_eq.mp this
variable {A : Around} {E : Value → Shared → Prop} {s : Shared} {a : Addr} {L : List (Str × Value)}
theorem StS.el {es : Array (Int × Value)} (hp : es.toList.Perm (L.map (rowS P w))) (ht : ∀ p ∈ L, ∃ tk, p.2 = .str p.1 tk) : ElemsOf (PySem.strKind P w) es.toList := fun e he => by
  obtain ⟨p, hp, rfl⟩ := List.mem_map.mp (hp.mem_iff.mp he)
  obtain ⟨tk, e⟩ := ht p hp
  exact ⟨⟨p.1, str_is p.1 ⟨tk, e⟩, rfl⟩, by show p.2.scannable = true; rw [e]; rfl⟩
/-- behind the store: the table may be laid anew -/
theorem tailS {g : Bool → Sem Unit} (hg : ∀ (b : Bool) (s₁ : Shared) (Q' : Unit → Shared → Prop), Q' () s₁ → wpAny (model P w) A (g b) Q' E s₁) {o : Obj} {es : Array (Int × Value)} {ep : Nat} {t : SetTable} (ho : s.heap.get? a = some o) (hex : o.ExactSet) (hd : o.data = .set es ep t)
    {es1 : Array (Int × Value)} {t2 : SetTable} (hp : es1.toList.Perm (L.map (rowS P w))) (ht : ∀ p ∈ L, ∃ tk, p.2 = .str p.1 tk) (nd : (L.map (·.1)).Nodup) (few : L.length < 64) (hf2 : t2.fits es1.size = true) (hr : Ris t2.place.toList) (hl : w.params.followText "set-order" = true ∨ t2.led = true) {wd : Bool} {R : Option Bool → Shared → Prop}
    (hR : ∀ h', Heap.SameBut a s.heap h' → StS P w h' a L → R (some true) { s with heap := h' }) :
    wpAny (model P w) A (do
        storeSet a es1 t2
        if (!wd && t2.tooFull) = true then do
            g (relayAll t2 es1 (SetTable.grown es1.size)).2.2
            storeSet a (relayAll t2 es1 (SetTable.grown es1.size)).1 (relayAll t2 es1 (SetTable.grown es1.size)).2.1
            pure (some true)
          else pure (some true)) R E s := by
  have hz : es1.size = L.length := by rw [← Array.length_toList, hp.length_eq, List.length_map]
  have hb : es1.size ≤ sizeLine := by rw [hz, sizeLine_eq]; omega
  refine wpAny_bind (wpAny_storeSet_of ho hd ?_ hb)
  have ho1 := store_at (es' := es1) (t' := t2) ho hd
  have sb1 := Heap.SameBut.update s.heap a (Obj.putSet es1 t2)
  split
  · have pm := relayAll_perm t2 es1 (SetTable.grown es1.size)
    have q1 := relayAll_fits t2 es1 (SetTable.grown es1.size)
    have q2 := relayAll_ris t2 es1 (SetTable.grown es1.size)
    have q3 := relayAll_led t2 es1 (SetTable.grown es1.size)
    generalize relayAll t2 es1 (SetTable.grown es1.size) = Z at pm q1 q2 q3 ⊢
    obtain ⟨es2, t3, gv⟩ := Z
    dsimp only at pm q1 q2 q3 ⊢
    have hz2 : es2.size = es1.size := by rw [← Array.length_toList, pm.length_eq, Array.length_toList]
    refine wpAny_bind (hg _ _ _ ?_)
    refine wpAny_bind (wpAny_storeSet_of ho1 rfl ?_ (by rw [hz2]; exact hb))
    exact wpAny_pure (hR _ (sb1.trans (Heap.SameBut.update _ a _)) ⟨⟨_, es2, _, t3, store_at ho1 rfl, hex, rfl, pm.trans hp, q1, q2, hl.imp id fun z => by rw [q3]; exact z⟩, ht, nd, few⟩)
  · exact wpAny_pure (hR _ sb1 ⟨⟨_, es1, _, t2, ho1, hex, rfl, hp, hf2, hr, hl⟩, ht, nd, few⟩)
theorem addS {k : Str} {v : Value} {Q : Bool → Shared → Prop} (hS : StS P w s.heap a L) (hv : ∃ tk, v = .str k tk) (hfew : L.length + 1 < 64)
    (h : ∀ b h' L' tk, Heap.SameBut a s.heap h' → StS P w h' a L' → ((∃ p ∈ L, p.1 = k) → L' = L) → ((∀ p ∈ L, p.1 ≠ k) → L'.Perm ((k, v) :: L)) → s.toks ≤ tk → Q b { s with heap := h', toks := tk }) : wpAny (model P w) A (setAdd a v) Q E s := by
  obtain ⟨⟨o, es, ep, t, ho, hex, hd, hp, hf, hr, hl⟩, ht, nd, few⟩ := hS
  have hkey : (PySem.strKind P w).is k v = true := str_is k hv
  have hsc : v.scannable = true := by obtain ⟨tk, rfl⟩ := hv; rfl
  have hel : ElemsOf (PySem.strKind P w) es.toList := StS.el hp ht
  have hz : es.size = L.length := by rw [← Array.length_toList, hp.length_eq, List.length_map]
  have hb : es.size < scanBound := by rw [hz]; unfold scanBound; omega
  unfold setAdd
  refine wpAny_holding (wpAny_bind ((PySem.strKind P w).pyHash hkey ?_))
  unfold setAddHashed setAddHashedIn
  refine wpAny_holding (wpAny_bind (wpAny_setState_of (s := { s with toks := s.toks + 1 }) ho hd hf ?_))
  dsimp only
  rw [byScan_of hsc hb hel]
  simp only [↓reduceIte]
  unfold setAddByScan
  refine wpAny_bind (wpAny_bind (wpAny_rule (wpAny_bind (wpAny_setScan_of hkey ho hd hf hel ?_))))
  cases hfi : List.findIdx? (fun e => (PySem.strKind P w).is k e.2) es.toList with
  | some j =>
    dsimp only
    obtain ⟨hj, pj, _⟩ := List.findIdx?_eq_some_iff_getElem.mp hfi
    obtain ⟨p, hpL, e⟩ := List.mem_map.mp (hp.mem_iff.mp (List.getElem_mem hj))
    have ek : p.1 = k := is_str (P := P) (w := w) (ht p hpL) (by rw [← e] at pj; exact pj)
    refine wpAny_pure (wpAny_pure (h _ s.heap L _ (Heap.SameBut.refl a s.heap) ⟨⟨o, es, ep, t, ho, hex, hd, hp, hf, hr, hl⟩, ht, nd, few⟩ (fun _ => rfl) (fun z => absurd ek (z p hpL)) (Nat.le_add_right _ _)))
  | none =>
    dsimp only
    have hnk : ∀ p ∈ L, p.1 ≠ k := fun p hpL e => by
      have c := List.findIdx?_eq_none_iff.mp hfi _ (hp.mem_iff.mpr (List.mem_map_of_mem hpL))
      have : (PySem.strKind P w).is k p.2 = true := str_is k (e ▸ ht p hpL)
      rw [show (rowS P w p).2 = p.2 from rfl, this] at c
      cases c
    have hgw : ∀ (b : Bool) {s₁ : Shared} {Q' : Unit → Shared → Prop}, Q' () s₁ → wpAny (model P w) A (match b with | true => rule "set.scan.the-table-gave-way" | false => pure ()) Q' E s₁ :=
      fun b s₁ Q' q => by cases b <;> first | exact wpAny_pure q | exact wpAny_rule q
    have pm := layNew_perm t es ((PySem.strKind P w).hash k) v
    have hf1 := layNew_fits t es ((PySem.strKind P w).hash k) v
    have hr1 := layNew_ris t es ((PySem.strKind P w).hash k) v hr
    have hl1 := layNew_led t es ((PySem.strKind P w).hash k) v
    generalize layNew t es ((PySem.strKind P w).hash k) v = Z at pm hf1 hr1 hl1 ⊢
    obtain ⟨es1, t1, wd, gv⟩ := Z
    dsimp only at pm hf1 hr1 hl1 ⊢
    rw [Array.toList_push] at pm
    have hp1 : es1.toList.Perm (((k, v) :: L).map (rowS P w)) := (pm.trans (List.perm_append_singleton _ _)).trans (hp.cons _)
    have ht1 : ∀ p ∈ (k, v) :: L, ∃ tk, p.2 = .str p.1 tk := fun p hq => by
      rcases List.mem_cons.mp hq with z | z
      · rw [z]; exact hv
      · exact ht p z
    have nd1 : (((k, v) :: L).map (·.1)).Nodup := List.nodup_cons.mpr ⟨fun z => by
      obtain ⟨p, h1, h2⟩ := List.mem_map.mp z
      exact hnk p h1 h2, nd⟩
    have hled : w.params.followText "set-order" = true ∨ t1.led = true := hl.imp id fun z => by rw [hl1]; exact z
    have fin : ∀ h', Heap.SameBut a s.heap h' → StS P w h' a ((k, v) :: L) → Q true { s with heap := h', toks := s.toks + 1 } := fun h' sb r =>
      h true h' _ _ sb r (fun ⟨p, h1, h2⟩ => absurd h2 (hnk p h1)) (fun _ => List.Perm.refl _) (Nat.le_add_right _ _)
    refine wpAny_bind (hgw _ ?_)
    split
    · refine wpAny_bind ?_
      rw [hashByValue_scannable 8 hsc]
      refine wpAny_pure ?_
      refine tailS (s := { s with toks := s.toks + 1 }) ?_ ho hex hd hp1 ht1 nd1 (by rw [List.length_cons]; omega) ?_ ?_ ?_ ?_
      · intro b s₁ Q' q; cases b <;> first | exact wpAny_pure q | exact wpAny_rule q
      · first | (split <;> first | exact hf1 | exact SetTable.fits_plain_off hf1) | exact hf1
      · first | (split <;> exact hr1) | exact hr1
      · first | (split <;> exact hled) | exact hled
      · intro h' sb r; exact wpAny_pure (fin h' sb r)
    · refine wpAny_bind (wpAny_pure ?_)
      simp only [↓reduceIte]
      refine tailS (s := { s with toks := s.toks + 1 }) ?_ ho hex hd hp1 ht1 nd1 (by rw [List.length_cons]; omega) hf1 hr1 hled ?_
      · intro b s₁ Q' q; cases b <;> first | exact wpAny_pure q | exact wpAny_rule q
      · intro h' sb r; exact wpAny_pure (fin h' sb r)
variable (P w)
/-- texts -/
def skS : SK P w where
  κ := Str
  is := fun _ k v => ∃ tk, v = .str k tk
  St := StS P w
  keepIs := fun _ h => h
  off := fun h _ _ => h
  keep := fun hk ⟨⟨o, es, ep, t, ho, r⟩, q1, q2, q3⟩ => ⟨⟨o, es, ep, t, hk o ho, r⟩, q1, q2, q3⟩
  fresh := fun ho => ⟨⟨_, #[], 0, _, ho, ⟨rfl, rfl, rfl⟩, rfl, List.Perm.refl _, by cases w.params.followText "set-order" <;> decide +kernel, List.Pairwise.nil, by
    show _ ∨ (!w.params.followText "set-order") = true
    cases w.params.followText "set-order"
    · exact .inr rfl
    · exact .inl rfl⟩, fun p hp => (nomatch hp), List.nodup_nil, by decide⟩
  add := fun _ hS _ hv hf h => addS hS hv hf h
  raw := fun ⟨⟨o, es, ep, t, ho, hex, hd, hp, hf, hr, hl⟩, ht, nd, few⟩ => ⟨o, es, ep, t, ho, hex, hd, hf, by
    rw [← Array.length_toList, hp.length_eq, List.length_map]; unfold scanBound; omega, hr, hl, by
    have := hp.map (·.2)
    rw [List.map_map] at this
    exact this⟩
  nodup := fun h => h.nd
  byText := fun ⟨⟨o, es, ep, t, ho, r⟩, q1, q2, q3⟩ e => ⟨⟨o, es, ep, t, e.trans ho, r⟩, q1, q2, q3⟩
end
end Fc
/-! FcSb: sets of literals. -/
namespace Fc
open PySem PySem.Spec PyProof.Rows L2
section
variable {P : Program} {w : World}
/-- the tuple at b is the literal l -/
abbrev IsL (P : Program) (w : World) (h : Heap) (l : Lt) (b : Addr) : Prop := IsTupleKey (leafKind P w) h (lk l) b
abbrev hL (P : Program) (w : World) (l : Lt) : Int := tupleKeyHash (leafKind P w) (lk l)
theorem noref {v : Value} (h : carriedByValue v = true) : ∀ b, v ≠ .ref b := fun b e => by subst e; exact Bool.false_ne_true h
theorem stmt_val (n : Nat) {v : Value} (h : carriedByValue v = true) : ofAClassStatement n v = pure false := by
  have := noref h
  cases v with
  | ref b => exact absurd rfl (this b)
  | _ => cases n <;> rfl
theorem hby_val (n : Nat) {v : Value} (h : carriedByValue v = true) : ∃ b, hashByValue n v = pure b := by
  have := noref h
  cases v with
  | ref b => exact absurd rfl (this b)
  | _ => exact ⟨_, by cases n <;> rfl⟩
variable {A : Around} {E : Value → Shared → Prop} {s : Shared}
theorem stmt_lit {l : Lt} {b : Addr} {Q : Bool → Shared → Prop} (hk : IsL P w s.heap l b) (h : Q false s) : wpAny (model P w) A (ofAClassStatement 8 (.ref b)) Q E s := by
  have hT := hk.typeIs
  obtain ⟨o, items, n, ho, _, hd, hi⟩ := hk
  have bv := hi.byValue
  unfold ofAClassStatement
  refine wpAny_bind (wpAny_typeOf hT ?_)
  dsimp only
  have e : (("tuple" : String) == "tuple") = true := by decide
  simp only [e, if_true, Bool.not_true, Bool.false_eq_true, if_false]
  try refine wpAny_bind (wpAny_pure ?_)
  try simp only [Bool.not_true, Bool.false_eq_true, if_false]
  refine wpAny_bind (wpAny_seqItems ho hd ?_)
  dsimp only
  refine wpAny_bind ?_
  rw [← Array.forIn_toList]
  refine wpAny_forIn_list _ (fun rest r s' => r.1 = none ∧ s' = s ∧ ∀ v ∈ rest, carriedByValue v = true) _ (fun v rest r s' ⟨h1, h2, h3⟩ => ?_) (fun r s' ⟨h1, h2, _⟩ => ?_) _ _ ⟨rfl, rfl, bv⟩
  · subst h2
    rw [stmt_val _ (h3 v List.mem_cons_self)]
    refine wpAny_bind (wpAny_pure ?_)
    simp only [Bool.false_eq_true, if_false]
    exact wpAny_pure ⟨rfl, rfl, fun u hu => h3 u (List.mem_cons_of_mem _ hu)⟩
  · obtain ⟨r1, r2⟩ := r
    simp only at h1
    subst h1; subst h2
    exact wpAny_pure h
theorem hby_lit {l : Lt} {b : Addr} {Q : Bool → Shared → Prop} (hk : IsL P w s.heap l b) (h : ∀ x, Q x s) : wpAny (model P w) A (hashByValue 8 (.ref b)) Q E s := by
  have hT := hk.typeIs
  obtain ⟨o, items, n, ho, _, hd, hi⟩ := hk
  have bv := hi.byValue
  unfold hashByValue
  refine wpAny_bind (wpAny_specialOf hT F.slot_tuple_hash.lookup ?_)
  show wpAny _ _ (seqItems? (.ref b) >>= _) _ _ s
  refine wpAny_bind (wpAny_seqItems ho hd ?_)
  refine wpAny_bind ?_
  show wpAny _ _ (forIn items _ _) _ _ s
  rw [← Array.forIn_toList]
  refine wpAny_forIn_list _ (fun rest r s' => r.1 = none ∧ s' = s ∧ ∀ v ∈ rest, carriedByValue v = true) _ (fun v rest r s' ⟨h1, h2, h3⟩ => ?_) (fun r s' ⟨h1, h2, _⟩ => ?_) _ _ ⟨rfl, rfl, bv⟩
  · subst h2
    obtain ⟨x, hx⟩ := hby_val 7 (h3 v List.mem_cons_self)
    rw [hx]
    refine wpAny_bind (wpAny_pure ?_)
    cases x with
    | true =>
      simp only [Bool.not_true, Bool.false_eq_true, if_false]
      exact wpAny_pure ⟨rfl, rfl, fun u hu => h3 u (List.mem_cons_of_mem _ hu)⟩
    | false =>
      simp only [Bool.not_false, if_true]
      exact wpAny_pure (wpAny_pure (h _))
  · obtain ⟨r1, r2⟩ := r
    simp only at h1
    subst h1; subst h2
    exact wpAny_pure (h _)
theorem seen_lit {l : Lt} {b : Addr} {Q : Bool → Shared → Prop} (hk : IsL P w s.heap l b) {ys : List Value} (hy : ∀ y ∈ ys, ∃ l' c, y = Value.ref c ∧ IsL P w s.heap l' c) (h : Q false s) : wpAny (model P w) A (searchCouldBeSeen (.ref b) ys) Q E s := by
  unfold searchCouldBeSeen
  refine wpAny_bind ?_
  refine wpAny_forIn_list _ (fun rest r s' => r.1 = none ∧ s' = s ∧ ∀ y ∈ rest, ∃ l' c, y = Value.ref c ∧ IsL P w s.heap l' c) _ (fun v rest r s' ⟨h1, h2, h3⟩ => ?_) (fun r s' ⟨h1, h2, _⟩ => ?_) _ _ ⟨rfl, rfl, hy⟩
  · subst h2
    obtain ⟨l', c, rfl, hc⟩ := h3 v List.mem_cons_self
    have more : ∀ y ∈ rest, ∃ l' c, y = Value.ref c ∧ IsL P w s'.heap l' c := fun u hu => h3 u (List.mem_cons_of_mem _ hu)
    dsimp only
    by_cases hv : (b == c || (carriedByValue (.ref b) && carriedByValue (.ref c))) = true
    · exact wp_if_pos hv (wpAny_pure ⟨rfl, rfl, more⟩)
    · refine wp_if_neg hv ?_
      refine wpAny_bind (wpAny_eqIsQuiet_tuple hk ?_)
      simp only [Bool.not_true, Bool.false_eq_true, if_false]
      refine wpAny_bind (wpAny_eqIsQuiet_tuple hc ?_)
      simp only [Bool.not_true, Bool.false_eq_true, if_false]
      refine wpAny_bind (stmt_lit hk ?_)
      simp only [Bool.false_eq_true, if_false]
      refine wpAny_bind (stmt_lit hc ?_)
      simp only [Bool.false_eq_true, if_false]
      exact wpAny_pure ⟨rfl, rfl, more⟩
  · obtain ⟨r1, r2⟩ := r
    simp only at h1
    subst h1; subst h2
    exact wpAny_pure h

/-! ### the set -/
def rowLt (P : Program) (w : World) (p : Lt × Value) : Int × Value := (hL P w p.1, p.2)
structure StL0 (P : Program) (w : World) (h : Heap) (a : Addr) (L : List (Lt × Value)) (es : Array (Int × Value)) (ep : Nat) (t : SetTable) : Prop where
  ob : ∃ o, h.get? a = some o ∧ o.ExactSet ∧ o.data = .set es ep t
  rows : es.toList = L.map (rowLt P w)
  tab : TabOk t (L.map fun p => hL P w p.1)
  nd : (L.map (·.1)).Nodup
  led : w.params.followText "set-order" = true ∨ t.led = true
  room : L.length * 5 < t.mask * 3
  few : L.length < 64
  rf : ∀ p ∈ L, ∃ b, p.2 = .ref b
/-- all members stand -/
abbrev AllL (P : Program) (w : World) (h : Heap) (L : List (Lt × Value)) : Prop := ∀ p ∈ L, ∃ b, p.2 = .ref b ∧ IsL P w h p.1 b
variable {a : Addr} {L : List (Lt × Value)} {es : Array (Int × Value)} {ep : Nat} {t : SetTable}
theorem rows_size (h : es.toList = L.map (rowLt P w)) : es.size = L.length := by rw [← Array.length_toList, h, List.length_map]
theorem rows_get (h : es.toList = L.map (rowLt P w)) {i : Nat} {p : Lt × Value} (e : L[i]? = some p) : es[i]? = some (hL P w p.1, p.2) := by
  rw [← Array.getElem?_toList, h, List.getElem?_map, e]
  rfl
theorem fits_tab (hd : t.dummies = #[]) (h1 : t.place.size = es.size) (h2 : es.size ≤ t.mask) : t.fits es.size = true := by
  unfold SetTable.fits SetTable.fill
  rw [hd, Bool.and_eq_true, beq_iff_eq, decide_eq_true_eq]
  show t.place.size = es.size ∧ t.place.size + 0 ≤ t.mask
  omega
theorem StL0.fits (R : StL0 P w s.heap a L es ep t) : t.fits es.size = true := by
  have h1 := R.tab.sz
  rw [List.length_map] at h1
  have h2 := rows_size R.rows
  have h3 := R.room
  exact fits_tab R.tab.dm (by omega) (by omega)
theorem StL0.gw (R : StL0 P w s.heap a L es ep t) : ¬ t.gaveWay = true := by
  unfold SetTable.gaveWay
  rw [mask_odd R.tab.mok]
  decide
/-- the walk of a hash -/
abbrev wk (m : Nat) (h : Int) (c : Nat) : SetTable.Probe := nth m (runAt m (SetTable.bits h % (m + 1)) (SetTable.bits h)) c
theorem wk_add (m : Nat) (h : Int) (c q : Nat) : nth m (wk m h c) q = wk m h (c + q) := (nth_add m c _ q).symm
theorem wk_dummy (m : Nat) (h : Int) : ∀ c, (wk m h c).dummy = none
  | 0 => rfl
  | c + 1 => by
    show (nth m _ (c + 1)).dummy = none
    rw [nth_succ]
    have := wk_dummy m h c
    unfold adv
    split <;> exact this
/-- the search from step c on: K is the first free step -/
theorem find_lit (R : StL0 P w s.heap a L es ep t) (hL' : AllL P w s.heap L) {x : Addr} {l : Lt} (hx : IsL P w s.heap l x) (hu : A.units < cLine) {K : Nat} (hKf : K < 10 * SetTable.turns t.mask) (hK : way t.mask (hL P w l) K ∉ t.place.toList) (hKb : ∀ c, c < K → way t.mask (hL P w l) c ∈ t.place.toList) {Q : SetFound → Shared → Prop}
    (yes : (∃ p ∈ L, p.1 = l) → Q (.there none) s) (no : (∀ p ∈ L, p.1 ≠ l) → Q (.free (way t.mask (hL P w l) K) false) s) :
    ∀ (f c : Nat) (st : Option SetTable.Probe), st.getD (t.probeStart (hL P w l)) = wk t.mask (hL P w l) c → c ≤ K → K - c < f → (∀ (i : Nat) p, L[i]? = some p → p.1 = l → ∃ c', c ≤ c' ∧ c' < K ∧ t.place.toList[i]? = some (way t.mask (hL P w l) c')) →
      wpAny (model P w) A (setSearchFrom a (.ref x) (hL P w l) true f st) Q E s
  | 0, _, _, _, _, hf, _ => absurd hf (Nat.not_lt_zero _)
  | f + 1, c, st, hst, hc, hf, here => by
    obtain ⟨o, ho, hex, hd⟩ := R.ob
    rw [setSearchFrom_succ]
    refine wpAny_bind (wpAny_setState_of ho hd R.fits ?_)
    dsimp only
    refine wp_if_neg R.gw ?_
    try refine wpAny_bind (wpAny_pure ?_)
    have ej : ∀ q, (nth t.mask (wk t.mask (hL P w l) c) q).j = way t.mask (hL P w l) (c + q) := fun q => congrArg SetTable.Probe.j (wk_add _ _ c q)
    have at_ : ∀ (i : Nat) p, L[i]? = some p → (fun i => (es[i]?.map (·.1)).getD 0) i = hL P w p.1 := fun i p hp => by
      show (es[i]?.map (·.1)).getD 0 = _
      rw [rows_get R.rows hp, Option.map_some, Option.getD_some]
    have back : K = c + (K - c) := by omega
    rcases go_spec t R.tab.ris R.tab.dm (fun i => (es[i]?.map (·.1)).getD 0) (hL P w l) (10 * SetTable.turns t.mask) (K - c) (wk t.mask (hL P w l) c) (wk_dummy _ _ c) (by omega) (fun q hq => by rw [ej]; exact hKb _ (by omega)) (by rw [ej, ← back]; exact hK) with ⟨q, i, hq, hi, hh, hno, hpr⟩ | ⟨hno, hpr⟩
    · rw [ej] at hi
      have hpr' : t.probe (fun i => (es[i]?.map (·.1)).getD 0) (hL P w l) (st.getD (t.probeStart (hL P w l))) = some (.candidate (way t.mask (hL P w l) (c + q)) i (wk t.mask (hL P w l) (c + (q + 1)))) := by
        rw [hst, ← ej q, ← wk_add t.mask (hL P w l) c (q + 1)]
        exact hpr
      rw [hpr']
      dsimp only
      have hiL : i < L.length := by
        have h1 := (List.getElem?_eq_some_iff.mp hi).1
        have h2 := R.tab.sz
        rw [List.length_map] at h2
        rw [Array.length_toList] at h1
        omega
      obtain ⟨p, hp⟩ : ∃ p, L[i]? = some p := ⟨_, List.getElem?_eq_getElem hiL⟩
      have hpm : p ∈ L := List.mem_of_getElem? hp
      obtain ⟨b, hb, hpl⟩ := hL' p hpm
      have slot : t.slot (way t.mask (hL P w l) (c + q)) = .live i := slot_live R.tab.ris hi
      have onward : wpAny (model P w) A (searchRest a (.ref x) (hL P w l) true f es t (way t.mask (hL P w l) (c + q)) i (wk t.mask (hL P w l) (c + (q + 1)))) Q E s := by
        unfold searchRest
        rw [rows_get R.rows hp, hb]
        dsimp only
        refine wpAny_bind (wpAny_holding (wpAny_eqBool_tuple hu hpl hx ?_))
        refine wpAny_bind (wpAny_setState_of ho hd R.fits ?_)
        dsimp only
        by_cases hkk : p.1 = l
        · refine wp_if_pos (by simp [hkk]) ?_
          exact wpAny_pure (yes ⟨p, hpm, hkk⟩)
        · have hkl : lk p.1 ≠ lk l := fun z => hkk (lk_inj z)
          refine wp_if_neg (by simp [hkl]) ?_
          try refine wpAny_bind (wpAny_pure ?_)
          rw [sameMem]
          dsimp only
          simp only [if_true, slot, rows_get R.rows hp, hb]
          refine wpAny_bind (wpAny_isSame_ref_self (wpAny_bind (wpAny_pure ?_)))
          simp only [if_true]
          refine wp_if_neg (by simp [hkl]) ?_
          refine find_lit R hL' hx hu hKf hK hKb yes no f (c + (q + 1)) _ rfl (by omega) (by omega) fun i0 p0 h0 hk0 => ?_
          obtain ⟨c', a1, a2, a3⟩ := here i0 p0 h0 hk0
          refine ⟨c', ?_, a2, a3⟩
          rcases Nat.lt_or_ge (c + q) c' with z | z
          · omega
          exfalso
          rcases Nat.lt_or_eq_of_le z with z | z
          · refine hno (c' - c) i0 (by omega) (by rw [ej, show c + (c' - c) = c' by omega]; exact a3) ?_
            exact (at_ i0 p0 h0).trans (congrArg (hL P w) hk0)
          · have z' : c' = c + q := by omega
            rw [z'] at a3
            have s0 := slot_live R.tab.ris a3
            rw [slot] at s0
            injection s0 with s0
            rw [← s0, hp] at h0
            exact hkk ((congrArg Prod.fst (Option.some.inj h0)).trans hk0)
      by_cases hl : t.led = true
      · refine wp_if_neg (by simp [hl]) ?_
        try refine wpAny_bind (wpAny_pure ?_)
        exact onward
      · refine wp_if_pos (by simp [hl]) ?_
        refine wpAny_bind (seen_lit hx (fun y hy => ?_) ?_)
        · obtain ⟨e, he, ee⟩ := List.mem_map.mp hy
          have he1 : e ∈ es ∧ e.1 = hL P w l := by simpa using he
          have he2 : e ∈ es.toList := by simpa using he1.1
          rw [R.rows] at he2
          obtain ⟨p2, hp2, e2⟩ := List.mem_map.mp he2
          obtain ⟨c2, h1, h2⟩ := hL' p2 hp2
          exact ⟨p2.1, c2, by rw [← ee, ← e2]; exact h1, h2⟩
        · refine wp_if_neg (by decide) ?_
          try refine wpAny_bind (wpAny_pure ?_)
          exact onward
    · have hpr' : t.probe (fun i => (es[i]?.map (·.1)).getD 0) (hL P w l) (st.getD (t.probeStart (hL P w l))) = some (.empty (way t.mask (hL P w l) K) none) := by
        have e2 : way t.mask (hL P w l) K = (nth t.mask (wk t.mask (hL P w l) c) (K - c)).j := by rw [ej (K - c), ← back]
        rw [hst, e2]
        exact hpr
      rw [hpr']
      dsimp only
      refine wpAny_pure (no fun p hp hk => ?_)
      obtain ⟨i0, hi0, e0⟩ := List.getElem_of_mem hp
      have h00 : L[i0]? = some p := by rw [List.getElem?_eq_getElem hi0, e0]
      obtain ⟨c', a1, a2, a3⟩ := here i0 p h00 hk
      refine hno (c' - c) i0 (by omega) (by rw [ej, show c + (c' - c) = c' by omega]; exact a3) ?_
      exact (at_ i0 p h00).trans (congrArg (hL P w) hk)
/-- the search that adding asks for -/
theorem search_lit (R : StL0 P w s.heap a L es ep t) (hL' : AllL P w s.heap L) {x : Addr} {l : Lt} (hx : IsL P w s.heap l x) (hu : A.units < cLine) {Q : SetFound → Shared → Prop} (yes : (∃ p ∈ L, p.1 = l) → Q (.there none) s)
    (no : ∀ K, (∀ p ∈ L, p.1 ≠ l) → way t.mask (hL P w l) K ∉ t.place.toList → (∀ c, c < K → way t.mask (hL P w l) c ∈ t.place.toList) → Q (.free (way t.mask (hL P w l) K) false) s) : wpAny (model P w) A (setSearch a (.ref x) (hL P w l) true) Q E s := by
  have room := R.room
  obtain ⟨K, hKf, hK, hKb⟩ := R.tab.first (by rw [List.length_map]; omega) (hL P w l)
  have small : K < 100000 := by
    have : 10 * SetTable.turns t.mask ≤ 1420 := by
      unfold SetTable.turns
      rcases R.tab.mok with e | e | e <;> omega
    omega
  unfold setSearch
  refine find_lit R hL' hx hu hKf hK hKb yes (fun hn => no K hn hK hKb) 100000 0 none rfl (Nat.zero_le _) (by omega) fun i p hp hk => ?_
  have hi : (L.map fun p => hL P w p.1)[i]? = some (hL P w l) := by rw [List.getElem?_map, hp, ← hk]; rfl
  have hil : i < t.place.toList.length := by
    have h1 := (List.getElem?_eq_some_iff.mp hp).1
    have h2 := R.tab.sz
    rw [List.length_map] at h2
    rw [Array.length_toList]
    omega
  have hj := List.getElem?_eq_getElem hil
  obtain ⟨c, hc, e⟩ := R.tab.before hK hi hj
  exact ⟨c, Nat.zero_le _, hc, by rw [hj, e]⟩
end
end Fc
/-! FcSc: sets of literals: adding. -/
namespace Fc
open PySem PySem.Spec PyProof.Rows L2
theorem range_get {α : Type} (L : List α) : (List.range L.length).filterMap (fun i => L[i]?) = L := by
  have e : (List.range L.length).map (fun i => L[i]?) = L.map some := by
    refine List.ext_getElem? fun i => ?_
    rw [List.getElem?_map, List.getElem?_map]
    by_cases h : i < L.length
    · rw [List.getElem?_range h, List.getElem?_eq_getElem h]
      simp [List.getElem?_eq_getElem h]
    · rw [List.getElem?_eq_none (by rw [List.length_range]; omega), List.getElem?_eq_none (by omega)]
      rfl
  have e2 : ∀ l : List Nat, l.filterMap (fun i => L[i]?) = (l.map fun i => L[i]?).filterMap id := fun l => by rw [List.filterMap_map]; rfl
  rw [e2, e, List.filterMap_map]
  exact List.filterMap_some
section
variable {P : Program} {w : World}
theorem order_lit (L : List (Lt × Value)) (es : Array (Int × Value)) (order : Array Nat) (hr : es.toList = L.map (rowLt P w)) (hp : order.toList.Perm (List.range L.length)) :
    ∃ L2 : List (Lt × Value), (order.filterMap (es[·]?)).toList = L2.map (rowLt P w) ∧ L2.Perm L ∧ (L2.map fun p => hL P w p.1) = order.toList.map fun i => (es.map (·.1)).getD i 0 := by
  have get : ∀ i, es[i]? = (L[i]?).map (rowLt P w) := fun i => by rw [← Array.getElem?_toList, hr, List.getElem?_map]
  refine ⟨order.toList.filterMap fun i => L[i]?, ?_, ?_, ?_⟩
  · rw [Array.toList_filterMap, List.map_filterMap]
    exact congrArg (fun f => order.toList.filterMap f) (funext get)
  · have h := List.Perm.filterMap (fun i => L[i]?) hp
    rw [range_get] at h
    exact h
  · have key : ∀ l : List Nat, (∀ i ∈ l, i < L.length) → ((l.filterMap fun i => L[i]?).map fun p => hL P w p.1) = l.map fun i => (es.map (·.1)).getD i 0 := by
      intro l
      induction l with
      | nil => intro _; rfl
      | cons i l ih =>
        intro h
        have hi := h i List.mem_cons_self
        rw [List.filterMap_cons_some (List.getElem?_eq_getElem hi), List.map_cons, List.map_cons, ih fun j hj => h j (List.mem_cons_of_mem _ hj)]
        have e : (es.map (·.1))[i]? = some (hL P w (L[i]).1) := by rw [Array.getElem?_map, get, List.getElem?_eq_getElem hi, Option.map_some, Option.map_some, rowLt]
        rw [Array.getD_eq_getD_getElem?, e, Option.getD_some]
    exact key _ fun i hi => List.mem_range.mp (hp.mem_iff.mp hi)
variable {A : Around} {E : Value → Shared → Prop} {s : Shared} {a : Addr} {L : List (Lt × Value)} {es : Array (Int × Value)} {ep : Nat} {t : SetTable}
/-- the table laid anew -/
theorem relay_lit {o : Obj} (ho : s.heap.get? a = some o) (hex : o.ExactSet) (hd : o.data = .set es ep t) (hrows : es.toList = L.map (rowLt P w)) (hsz : t.place.size = es.size) (hdm : t.dummies = #[]) (hfl : es.size ≤ t.mask) (nd : (L.map (·.1)).Nodup) (rf : ∀ p ∈ L, ∃ b, p.2 = .ref b)
    (ld : w.params.followText "set-order" = true ∨ t.led = true) (few : L.length < 64) {wanted M : Nat} (hw : SetTable.sizeAbove wanted - 1 = M) (hM : MaskOk M) (hw2 : SetTable.sizeAbove wanted ≤ 128) (hn : L.length * 5 < M * 3) {Q : Unit → Shared → Prop}
    (h : ∀ h' L' es' ep' t', Heap.SameBut a s.heap h' → StL0 P w h' a L' es' ep' t' → L'.Perm L → Q () { s with heap := h' }) : wpAny (model P w) A (setRelay a wanted) Q E s := by
  have hz := rows_size hrows
  obtain ⟨t', order, e, hp, T, em, el, _, _⟩ := relaid_ok t (hs := es.map (·.1)) (wanted := wanted) hw hM (by rw [Array.size_map, hz]; omega)
  rw [Array.size_map, hz] at hp
  obtain ⟨L2, r1, r2, r3⟩ := order_lit (P := P) (w := w) L es order hrows hp
  rw [← r3] at T
  have hs2 : (order.filterMap (es[·]?)).size = es.size := by rw [rows_size r1, r2.length_eq, hz]
  rw [setRelay_eq]
  refine wpAny_bind (wpAny_setState_of ho hd (fits_tab hdm hsz hfl) ?_)
  dsimp only
  refine wp_if_neg (by rw [sizeLine_eq]; omega) ?_
  try refine wpAny_bind (wpAny_pure ?_)
  rw [e]
  dsimp only
  refine wpAny_bind ?_
  refine wp_if_neg (by rw [hs2]; simp) ?_
  try refine wpAny_bind (wpAny_pure ?_)
  refine wpAny_pure ?_
  dsimp only
  refine wpAny_storeSet_of ho hd ?_ (by rw [hs2, hz, sizeLine_eq]; omega)
  exact h _ L2 _ (ep + 1) t' (Heap.SameBut.update ..) ⟨⟨_, store_at ho hd, ⟨hex.1, hex.2.1, hex.2.2⟩, rfl⟩, r1, T, (r2.map (·.1)).nodup_iff.mpr nd, by rw [el]; exact ld, by rw [r2.length_eq, em]; exact hn, by rw [r2.length_eq]; exact few, fun p hp => rf p (r2.mem_iff.mp hp)⟩ r2
theorem isL_off {h h' : Heap} {l : Lt} {b : Addr} {o : Obj} (hb : IsL P w h l b) (ho : h.get? a = some o) (hd : o.data = .set es ep t) (sb : Heap.SameBut a h h') : IsL P w h' l b := by
  obtain ⟨o', items, n, ho', r⟩ := hb
  refine ⟨o', items, n, (sb.2 b fun e => ?_).trans ho', r⟩
  rw [e, ho] at ho'
  cases ho'
  have := r.2.1
  rw [hd] at this
  cases this
theorem add_lit (R : StL0 P w s.heap a L es ep t) (hL' : AllL P w s.heap L) {x : Addr} {l : Lt} (hx : IsL P w s.heap l x) (hu : A.units < cLine) (hfew : L.length + 1 < 64) {Q : Bool → Shared → Prop}
    (h : ∀ b h' L' es' ep' t', Heap.SameBut a s.heap h' → StL0 P w h' a L' es' ep' t' → ((∃ p ∈ L, p.1 = l) → L' = L) → ((∀ p ∈ L, p.1 ≠ l) → L'.Perm ((l, .ref x) :: L)) → Q b { s with heap := h' }) :
    wpAny (model P w) A (setAddHashed a (.ref x) (hL P w l)) Q E s := by
  obtain ⟨o, ho, hex, hd⟩ := R.ob
  have hz := rows_size R.rows
  have room := R.room
  unfold setAddHashed
  refine wpAny_holding ?_
  rw [show (100000 : Nat) = 99999 + 1 from rfl, setAddHashedIn_succ]
  refine wpAny_bind (wpAny_setState_of ho hd R.fits ?_)
  dsimp only
  refine wp_if_neg (by simp [byScan, Value.scannable]) ?_
  try refine wpAny_bind (wpAny_pure ?_)
  refine wpAny_bind (search_lit R hL' hx hu (fun hm => ?_) fun K hm hK hb => ?_)
  · dsimp only
    exact wpAny_pure (h false s.heap L es ep t (Heap.SameBut.refl a s.heap) R (fun _ => rfl) fun z => by obtain ⟨p, h1, h2⟩ := hm; exact absurd h2 (z p h1))
  · dsimp only
    refine wpAny_bind (wpAny_setState_of ho hd R.fits ?_)
    dsimp only
    obtain ⟨q1, q2, q3, q4, q5, q6, q7, q8, q9⟩ := R.tab.put hK hb
    generalize hpt : t.put (way t.mask (hL P w l) K) = pt at q1 q3 q4 q5 q6 q7 q8 q9 ⊢
    obtain ⟨t1, p⟩ := pt
    dsimp only at q1 q3 q4 q5 q6 q7 q8 q9 ⊢
    subst q1
    have hin : (SetTable.insertAt es (SetTable.below t.place (way t.mask (hL P w l) K)) (hL P w l, Value.ref x)).toList = (L.take (SetTable.below t.place (way t.mask (hL P w l) K)) ++ (l, .ref x) :: L.drop (SetTable.below t.place (way t.mask (hL P w l) K))).map (rowLt P w) := by
      rw [SetTable.toList_insertAt, R.rows, List.map_append, List.map_cons, List.map_take, List.map_drop, rowLt]
    generalize SetTable.below t.place (way t.mask (hL P w l) K) = p at q2 q3 hin ⊢
    have pm := put_perm L p (l, Value.ref x)
    have hlen : (L.take p ++ (l, Value.ref x) :: L.drop p).length = L.length + 1 := pm.length_eq
    have hhs : (L.take p ++ (l, Value.ref x) :: L.drop p).map (fun p => hL P w p.1) = (L.map fun p => hL P w p.1).take p ++ hL P w l :: (L.map fun p => hL P w p.1).drop p := by
      rw [List.map_append, List.map_cons, List.map_take, List.map_drop]
    rw [← hhs] at q3
    have nd1 : ((L.take p ++ (l, Value.ref x) :: L.drop p).map (·.1)).Nodup := by
      refine (pm.map (·.1)).nodup_iff.mpr (List.nodup_cons.mpr ⟨fun z => ?_, R.nd⟩)
      obtain ⟨p, h1, h2⟩ := List.mem_map.mp z
      exact hm p h1 h2
    have hes := rows_size hin
    rw [hlen] at hes
    have rf1 : ∀ q ∈ L.take p ++ (l, Value.ref x) :: L.drop p, ∃ b, q.2 = .ref b := fun q hq => by
      rcases List.mem_cons.mp (pm.mem_iff.mp hq) with e | hq
      · exact ⟨x, by rw [e]⟩
      · exact R.rf q hq
    generalize SetTable.insertAt es p (hL P w l, Value.ref x) = es1 at hin hes ⊢
    generalize L.take p ++ (l, Value.ref x) :: L.drop p = L1 at pm hlen q3 nd1 hin rf1
    -- what is behind the question of the hash, for any table that differs in its plainness alone
    have go : ∀ t2 : SetTable, TabOk t2 (L1.map fun p => hL P w p.1) → t2.mask = t.mask → t2.led = t.led → t2.fill = (L.map fun p => hL P w p.1).length + 1 → t2.place.size = es1.size →
        wpAny (model P w) A (do
          storeSet a es1 t2
          if (!false && t2.tooFull) = true then do
              setRelay a (SetTable.grown (es.size + 1))
              pure true
            else pure true) Q E s := fun t2 T em el ef esz => by
      have hfit : t2.fits es1.size = true := fits_tab T.dm esz (by rw [em, hes]; omega)
      refine wpAny_bind (wpAny_storeSet_of ho hd ?_ (by rw [hes, sizeLine_eq]; omega))
      have sb : Heap.SameBut a s.heap (s.heap.update a (Obj.putSet es1 t2)) := Heap.SameBut.update ..
      have ho1 := store_at (es' := es1) (t' := t2) ho hd
      generalize s.heap.update a (Obj.putSet es1 t2) = h1 at sb ho1 ⊢
      have ld1 : w.params.followText "set-order" = true ∨ t2.led = true := by rw [el]; exact R.led
      have full : t2.tooFull = decide ((L.length + 1) * 5 ≥ t2.mask * 3) := by
        unfold SetTable.tooFull
        rw [ef, List.length_map]
      by_cases hf : t2.tooFull = true
      · refine wp_if_pos (by simp [hf]) ?_
        have hfull : (L.length + 1) * 5 ≥ t2.mask * 3 := by rw [full, decide_eq_true_eq] at hf; exact hf
        rw [hz]
        have two : (t.mask = 7 ∧ L.length = 4) ∨ (t.mask = 31 ∧ L.length = 18) := by
          rcases R.tab.mok with e | e | e
          · left; rw [em, e] at hfull; rw [e] at room; exact ⟨e, by omega⟩
          · right; rw [em, e] at hfull; rw [e] at room; exact ⟨e, by omega⟩
          · exfalso; rw [em, e] at hfull; omega
        have fin : ∀ M, SetTable.sizeAbove (SetTable.grown (L.length + 1)) - 1 = M → MaskOk M → SetTable.sizeAbove (SetTable.grown (L.length + 1)) ≤ 128 → (L.length + 1) * 5 < M * 3 →
            wpAny (model P w) A (setRelay a (SetTable.grown (L.length + 1))) (fun _ s' => wpAny (model P w) A (pure true) Q E s') E { s with heap := h1 } := fun M h1' h2' h3' h4' => by
          refine relay_lit (s := { s with heap := h1 }) ho1 ⟨hex.1, hex.2.1, hex.2.2⟩ rfl hin esz T.dm (by rw [hes, em]; rcases two with ⟨e, e2⟩ | ⟨e, e2⟩ <;> omega) nd1 rf1 ld1 (by rw [hlen]; exact hfew) h1' h2' h3' (by rw [hlen]; exact h4') ?_
          intro h2 L2 es2 ep2 t3 sb2 R2 pm2
          exact wpAny_pure (h true h2 L2 es2 ep2 t3 (sb.trans sb2) R2 (fun ⟨p, k1, k2⟩ => absurd k2 (hm p k1)) fun _ => pm2.trans pm)
        refine wpAny_bind ?_
        rcases two with ⟨_, e2⟩ | ⟨_, e2⟩
        · exact fin 31 (by rw [e2, size_20]) (.inr (.inl rfl)) (by rw [e2, size_20]; decide) (by omega)
        · exact fin 127 (by rw [e2, size_76]) (.inr (.inr rfl)) (by rw [e2, size_76]; decide) (by omega)
      · refine wp_if_neg (by simp [hf]) ?_
        have hfull : ¬ (L.length + 1) * 5 ≥ t2.mask * 3 := fun z => hf (by rw [full]; exact decide_eq_true z)
        exact wpAny_pure (h true h1 L1 es1 (ep + 1) t2 sb ⟨⟨_, ho1, ⟨hex.1, hex.2.1, hex.2.2⟩, rfl⟩, hin, T, nd1, ld1, by rw [hlen]; omega, by rw [hlen]; exact hfew, rf1⟩ (fun ⟨p, k1, k2⟩ => absurd k2 (hm p k1)) fun _ => pm)
    have esz : t1.place.size = es1.size := by
      have := q3.sz
      rw [List.length_map, hlen] at this
      rw [this, hes]
    have two : ∀ b : Bool, wpAny (model P w) A (do
          storeSet a es1 (if b = true then t1 else { t1 with plain := false })
          if (!false && (if b = true then t1 else { t1 with plain := false }).tooFull) = true then do
              setRelay a (SetTable.grown (es.size + 1))
              pure true
            else pure true) Q E s := fun b => by
      cases b with
      | true => exact go t1 q3 q4 q5 q9 esz
      | false => exact go { t1 with plain := false } ⟨q3.ris, q3.dm, q3.sz, q3.mok, q3.bd, q3.reach⟩ q4 q5 q9 esz
    by_cases hpl : t1.plain = true
    · first
        | (refine wpAny_bind ?_; refine wp_if_pos hpl (hby_lit hx fun b => ?_); exact two b)
        | (refine wp_if_pos hpl (wpAny_bind (hby_lit hx fun b => ?_)); exact two b)
    · first
        | (refine wpAny_bind ?_; refine wp_if_neg hpl (wpAny_pure ?_); exact two true)
        | (refine wp_if_neg hpl (wpAny_bind (wpAny_pure ?_)); exact two true)
        | (refine wp_if_neg hpl ?_; exact two true)
end
end Fc
/-! FcU: data with a type: their order, sorting. -/
namespace Fc
open PySem PySem.W PySem.Spec PyProof.Rows L2
section
variable {α : Type} [DecidableEq α] [DatumOrd α]
theorem lit_toD (l : Lt) : litD l = Datum.toD l := rfl
theorem tlt_eq (a b : α) : DatumOrd.lt a b = PyProof.Rows.lexLt itemOrd (keyToks (Datum.toD a)) (keyToks (Datum.toD b)) := (DatumOrd.lt_eq a b).symm
theorem tlt_self (a : α) : DatumOrd.lt a a = false := by rw [tlt_eq]; exact lex_irrefl _
theorem tlt_trans {a b c : α} (h : DatumOrd.lt a b = true) (k : DatumOrd.lt b c = true) : DatumOrd.lt a c = true := by
  rw [tlt_eq] at *
  exact lex_trans _ _ _ h k
theorem tlt_neg {a c : α} (b : α) (h : DatumOrd.lt a c = true) : DatumOrd.lt a b = true ∨ DatumOrd.lt b c = true := by
  rw [tlt_eq] at h
  rw [tlt_eq, tlt_eq]
  exact lex_negTrans _ _ _ h
theorem tlt_total {a b : α} (h : DatumOrd.lt a b = false) (k : DatumOrd.lt b a = false) : a = b := by
  rw [tlt_eq] at h k
  have e := lex_total _ _ h k
  have al := DatumOrd.alike a b
  cases q : PyData.eqv (Datum.toD a) (Datum.toD b) with
  | true =>
    rw [Datum.eqv, decide_eq_true_eq] at q
    exact q
  | false =>
    have := (toks_eqv _ _ al).2 q [] [.inl 0]
    rw [e, lex_irrefl, lex_pre] at this
    exact nomatch this
theorem tlt_asymm {a b : α} (h : DatumOrd.lt a b = true) : DatumOrd.lt b a = false := by
  cases q : DatumOrd.lt b a with
  | false => rfl
  | true =>
    have := tlt_trans h q
    rw [tlt_self] at this
    cases this
/-- a <= b -/
def leT (a b : α) : Bool := !DatumOrd.lt b a
theorem leT_refl (a : α) : leT a a = true := by unfold leT; rw [tlt_self]; rfl
theorem leT_total (a b : α) : (leT a b || leT b a) = true := by
  unfold leT
  cases q : DatumOrd.lt b a with
  | false => rfl
  | true => rw [tlt_asymm q]; rfl
theorem leT_trans (a b c : α) (h : leT a b = true) (k : leT b c = true) : leT a c = true := by
  unfold leT at *
  rw [Bool.not_eq_true'] at *
  cases q : DatumOrd.lt c a with
  | false => rfl
  | true =>
    rcases tlt_neg b q with z | z
    · rw [k] at z; cases z
    · rw [h] at z; cases z
theorem leT_anti {a b : α} (h : leT a b = true) (k : leT b a = true) : a = b := by
  unfold leT at *
  rw [Bool.not_eq_true'] at *
  exact tlt_total k h
theorem leT_of_lt {a b : α} (h : DatumOrd.lt a b = true) : leT a b = true := by
  unfold leT
  rw [tlt_asymm h]
  rfl
theorem lt_of_not_leT {a b : α} (h : ¬ leT a b = true) : DatumOrd.lt b a = true := by
  unfold leT at h
  rw [Bool.not_eq_true'] at h
  cases q : DatumOrd.lt b a with
  | true => rfl
  | false => exact absurd q h
theorem lt_of_leT_ne {a b : α} (h : leT a b = true) (n : a ≠ b) : DatumOrd.lt a b = true := by
  cases q : DatumOrd.lt a b with
  | true => rfl
  | false => exact absurd (leT_anti h (by unfold leT; rw [q]; rfl)) n
def sortT (xs : List α) : List α := xs.mergeSort leT
theorem sortT_perm (xs : List α) : (sortT xs).Perm xs := List.mergeSort_perm xs leT
theorem sortT_mem {xs : List α} {a : α} : a ∈ sortT xs ↔ a ∈ xs := (sortT_perm xs).mem_iff
theorem sortT_sorted (xs : List α) : (sortT xs).Pairwise fun a b => leT a b = true := List.pairwise_mergeSort leT_trans leT_total xs
theorem sortT_map (xs : List α) : sortD (xs.map Datum.toD) = (sortT xs).map Datum.toD := by
  unfold sortD sortT
  refine (List.map_mergeSort fun a _ b _ => ?_).symm
  rw [dataLe_eq]
  show leT a b = !dataLt (Datum.toD b) (Datum.toD a)
  rw [DatumOrd.lt_eq]
  rfl
theorem sorted_eq {l m : List α} (p : l.Perm m) (h : l.Pairwise fun a b => leT a b = true) (k : m.Pairwise fun a b => leT a b = true) : l = m :=
  List.Perm.eq_of_pairwise (le := fun a b => leT a b = true) (fun a b _ _ h k => leT_anti h k) h k p
theorem sortT_congr {l m : List α} (p : l.Perm m) : sortT l = sortT m := sorted_eq ((sortT_perm l).trans (p.trans (sortT_perm m).symm)) (sortT_sorted l) (sortT_sorted m)
theorem sortT_eq {l m : List α} (p : l.Perm m) (k : m.Pairwise fun a b => leT a b = true) : sortT l = m := sorted_eq ((sortT_perm l).trans p) (sortT_sorted l) k
end
end Fc
/-! FcSd: set(xs), len(set(xs)), sorted(set(xs)) by what is read. -/
namespace Fc
open PySem PySem.W PySem.Spec PyProof.Rows L2
section
variable {P : Program} {w : World} {A : Around} {E : Value → Shared → Prop} {s : Shared} {a : Addr} {L : List (Lt × Value)} {es : Array (Int × Value)} {ep : Nat} {t : SetTable}
theorem StL0.at' {h h' : Heap} (R : StL0 P w h a L es ep t) (hk : ∀ o, h.get? a = some o → h'.get? a = some o) : StL0 P w h' a L es ep t :=
  ⟨let ⟨o, ho, r⟩ := R.ob; ⟨o, hk o ho, r⟩, R.rows, R.tab, R.nd, R.led, R.room, R.few, R.rf⟩
theorem setAdd_lit {l : Lt} {v : Value} {Q : Bool → Shared → Prop} (hu : A.units + 4 < cLine) (R : StL0 P w s.heap a L es ep t) (hL' : AllL P w s.heap L) (hv : ∃ b, v = .ref b ∧ IsL P w s.heap l b) (hf : L.length + 1 < 64)
    (h : ∀ b h' L' tk, Heap.SameBut a s.heap h' → (∃ es ep t, StL0 P w h' a L' es ep t) → ((∃ p ∈ L, p.1 = l) → L' = L) → ((∀ p ∈ L, p.1 ≠ l) → L'.Perm ((l, v) :: L)) → s.toks ≤ tk → Q b { s with heap := h', toks := tk }) : wpAny (model P w) A (setAdd a v) Q E s := by
  obtain ⟨b, rfl, hb⟩ := hv
  unfold setAdd
  refine wpAny_holding (wpAny_bind (wpAny_pyHash_tuple (by omega) hb ?_))
  refine add_lit (s := { s with toks := s.toks + ((lk l).length + 1) }) (R.at' fun _ e => e) hL' hb (by omega) hf fun b' h' L' es' ep' t' sb R' c1 c2 => ?_
  exact h b' h' L' _ sb ⟨es', ep', t', R'⟩ c1 c2 (Nat.le_add_right _ _)
theorem stL_fresh {h : Heap} (ho : h.get? a = some (set0 w)) : StL0 P w h a [] #[] 0 (.fresh 0 0 (!w.params.followText "set-order")) where
  ob := ⟨_, ho, ⟨rfl, rfl, rfl⟩, rfl⟩
  rows := rfl
  tab := ⟨List.Pairwise.nil, rfl, rfl, .inl rfl, fun x hx => (nomatch hx), fun i h j hi => (by simp at hi)⟩
  nd := List.nodup_nil
  led := by
    show _ ∨ (!w.params.followText "set-order") = true
    cases w.params.followText "set-order"
    · exact .inr rfl
    · exact .inl rfl
  room := by show 0 * 5 < 7 * 3; decide
  few := by show 0 < 64; decide
  rf := fun p hp => (nomatch hp)
theorem stL_raw {h : Heap} (R : StL0 P w h a L es ep t) : ∃ o es ep t, h.get? a = some o ∧ o.ExactSet ∧ o.data = .set es ep t ∧ t.fits es.size = true ∧ es.size < scanBound ∧ Ris t.place.toList ∧ (w.params.followText "set-order" = true ∨ t.led = true) ∧ (es.toList.map (·.2)).Perm (L.map (·.2)) := by
  obtain ⟨o, ho, hex, hd⟩ := R.ob
  refine ⟨o, es, ep, t, ho, hex, hd, ?_, ?_, R.tab.ris, R.led, ?_⟩
  · have h1 := R.tab.sz
    rw [List.length_map] at h1
    have h2 := rows_size R.rows
    have h3 := R.room
    exact fits_tab R.tab.dm (by omega) (by omega)
  · rw [rows_size R.rows]; have := R.few; unfold scanBound; omega
  · rw [R.rows, List.map_map]
    exact List.Perm.refl _
end
section
variable (P : Program) (w : World)
/-- literals -/
def skL : SK P w where
  κ := Lt
  is := fun h l v => ∃ b, v = .ref b ∧ IsL P w h l b
  St := fun h a L => ∃ es ep t, StL0 P w h a L es ep t
  keepIs := fun hk ⟨b, e, o, items, n, ho, r⟩ => ⟨b, e, o, items, n, hk b o ho, r⟩
  off := fun ⟨b, e, h⟩ ⟨es, ep, t, R⟩ sb => ⟨b, e, let ⟨o, ho, _, hd⟩ := R.ob; isL_off h ho hd sb⟩
  keep := fun hk ⟨es, ep, t, R⟩ => ⟨es, ep, t, R.at' hk⟩
  fresh := fun ho => ⟨_, _, _, stL_fresh ho⟩
  add := fun hu ⟨es, ep, t, R⟩ hL' hv hf h => setAdd_lit hu R hL' hv hf h
  raw := fun ⟨es, ep, t, R⟩ => stL_raw R
  nodup := fun ⟨es, ep, t, R⟩ => R.nd
  byText := fun ⟨es, ep, t, R⟩ e => ⟨es, ep, t, R.at' fun o ho => e.trans ho⟩
end
section
variable {X : Cx} {pins : List (Addr × Obj)} {σ : L2.St} {H : Hp} {s : Shared}
/-- the set at a as a tracked thing -/
def setX {P : Program} {w : World} (S : SK P w) (a : Addr) (L : List (S.κ × Value)) : HO := .ext fun h => S.St h a L
theorem setX_new {P : Program} {w : World} {S : SK P w} {h : Heap} {a : Addr} {L : List (S.κ × Value)} (R : S.St h a L) : ObjOk P w H h a (setX S a L) :=
  ⟨R, let ⟨o, _, _, _, ho, _⟩ := S.raw R; ⟨o, ho⟩, fun _ _ p k => S.keep k p⟩
/-- the members' data -/
structure Enc (X : Cx) (S : SK X.prog X.w) (enc : S.κ → PyData) : Prop where
  is : ∀ {pins : List (Addr × Obj)} {σ : L2.St} {H : Hp} {s : Shared} {k : S.κ} {v : V} {u : Value}, Inv X pins σ H s → Dp X.K H v (enc k) → RelV v u → S.is s.heap k u
theorem encS : Enc X (skS X.prog X.w) (fun k => .str k) where
  is := fun I h r => by
    rw [dp_str h] at r
    obtain ⟨t, rfl⟩ := r
    exact ⟨t, rfl⟩
theorem encL : Enc X (skL X.prog X.w) (fun l => litD l) where
  is := fun {_ _ _ _ k v u} I h r => by
    obtain ⟨b, xs, rfl, h1, h2⟩ := dp_tup h
    obtain rfl : u = Value.ref b := r
    have : xs = litV k := by
      cases h2 with
      | cons a1 t =>
        cases t with
        | cons a2 t =>
          cases t
          rw [dp_str a1, dp_bl a2]
          rfl
    rw [this] at h1
    exact ⟨b, rfl, lit_key I h1⟩
/-- the members as values -/
def Mem {P : Program} {w : World} {S : SK P w} (enc : S.κ → PyData) (K : PySem.W.Frag) (T : Hp) (L : List (S.κ × Value)) (ys : List V) : Prop := Vals ys (L.map (·.2)) ∧ DpAll K T ys (L.map fun p => enc p.1)
/-- set(xs) -/
def rSetOf {P : Program} {w : World} (S : SK P w) (enc : S.κ → PyData) (K : PySem.W.Frag) : List V → Hp → VK → Prop := fun xs H Q => ∃ T v, ∃ ks : List S.κ, xs = [v] ∧ Same T H ∧ (Dp K T v (.list (ks.map enc)) ∨ Dp K T v (.tuple (ks.map enc))) ∧ ks.length < 64 ∧
  ∀ a L ys, H a = none → Mem enc K T L ys → (∀ p ∈ L, p.1 ∈ ks) → (∀ k ∈ ks, k ∈ L.map (·.1)) → (L.map (·.1)).Nodup → L.length < 64 → Q (.ref a) (upd H a (setX S a L))
theorem ks_of {S : SK X.prog X.w} {enc : S.κ → PyData} (en : Enc X S enc) (I : Inv X pins σ H s) {T : Hp} (sT : Same T H) : ∀ {ks : List S.κ} {xs : List V} {us : List Value}, DpAll X.K T xs (ks.map enc) → Vals xs us →
    ∃ L : List (S.κ × Value), L.map (·.2) = us ∧ L.map (·.1) = ks ∧ (∀ p ∈ L, S.is s.heap p.1 p.2) ∧ ∀ p ∈ L, ∃ v, RelV v p.2 ∧ Dp X.K T v (enc p.1)
  | [], xs, us, h, r => by
    cases h
    cases r
    exact ⟨[], rfl, rfl, fun _ h => (nomatch h), fun _ h => (nomatch h)⟩
  | k :: ks, xs, us, h, r => by
    cases h with
    | cons h1 h2 =>
      cases r with
      | cons r1 r2 =>
        rename_i v vs u us
        obtain ⟨L, e1, e2, q1, q2⟩ := ks_of en I sT h2 r2
        refine ⟨(k, u) :: L, by rw [List.map_cons, e1], by rw [List.map_cons, e2], fun p hp => ?_, fun p hp => ?_⟩
        · rcases List.mem_cons.mp hp with rfl | hp
          · exact en.is I (dp_mono sT _ _ h1) r1
          · exact q1 p hp
        · rcases List.mem_cons.mp hp with rfl | hp
          · exact ⟨v, r1, h1⟩
          · exact q2 p hp
theorem mem_of {P : Program} {w : World} {S : SK P w} {enc : S.κ → PyData} {K : PySem.W.Frag} {T : Hp} : ∀ {L : List (S.κ × Value)}, (∀ p ∈ L, ∃ v, RelV v p.2 ∧ Dp K T v (enc p.1)) → ∃ ys, Mem enc K T L ys
  | [], _ => ⟨[], .nil, .nil⟩
  | p :: L, h => by
    obtain ⟨v, r, d⟩ := h p List.mem_cons_self
    obtain ⟨ys, q1, q2⟩ := mem_of (L := L) fun q hq => h q (List.mem_cons_of_mem _ hq)
    exact ⟨v :: ys, .cons r q1, .cons d q2⟩
theorem cr_setOf {S : SK X.prog X.w} {enc : S.κ → PyData} (en : Enc X S enc) (hc : X.calm = true) (hu : X.A.units + 64 < cLine) : CallR X (.type "set") (rSetOf S enc X.K) := by
  intro pins s σ H xs us Q I r ⟨T, v, ks, e, sT, hd, few, q⟩
  subst e
  obtain ⟨u, rfl, ru⟩ := vals1 r
  have hn : H s.heap.objs.size = none := I.hok.fresh (Nat.le_refl _)
  obtain ⟨l, vs, its, rfl, hsq, r2, hall⟩ : ∃ l vs its, u = Value.ref l ∧ IsSq s.heap l its.toArray ∧ Vals vs its ∧ DpAll X.K T vs (ks.map enc) := by
    rcases hd with h | h
    · obtain ⟨a, vs, rfl, h1, h2⟩ := dp_list h
      obtain ⟨its, r, pl, hz⟩ := I.list (same_l sT h1)
      exact ⟨a, vs, its, ru, .inl pl.isList, r, h2⟩
    · obtain ⟨a, vs, rfl, h1, h2⟩ := dp_tup h
      obtain ⟨its, r, pl, hz⟩ := I.tuple (same_t sT h1)
      exact ⟨a, vs, its, ru, .inr pl, r, h2⟩
  obtain ⟨L0, e1, e2, q1, q2⟩ := ks_of en I sT hall r2
  have hlen : L0.length = ks.length := by rw [← e2, List.length_map]
  refine call_set (S := S) (ks := L0) (I.ok.hd hc) hsq e1.symm q1 (by omega) (by omega) fun h' tk L hk R g => ?_
  obtain ⟨ys, hy⟩ := mem_of (enc := enc) (K := X.K) (T := T) (L := L) fun p hp => q2 p (g.sub p hp)
  refine ⟨.ref s.heap.objs.size, upd H s.heap.objs.size (setX S s.heap.objs.size L), I.laid (t' := tk) hk (Nat.le_refl _) (setX_new R), rfl, q _ L ys hn hy (fun p hp => ?_) (fun k hkk => ?_) (S.nodup R) (by have := g.len; omega)⟩
  · rw [← e2]; exact List.mem_map_of_mem (g.sub p hp)
  · rw [← e2] at hkk
    obtain ⟨p, hp, rfl⟩ := List.mem_map.mp hkk
    obtain ⟨q, hq, e⟩ := g.all p hp
    exact List.mem_map.mpr ⟨q, hq, e⟩
/-- len(set) -/
theorem cr_lenSet {S : SK X.prog X.w} : CallR X (.builtin "len") (fun xs H Q => ∃ a, ∃ L : List (S.κ × Value), xs = [.ref a] ∧ H a = some (setX S a L) ∧ L.length < 64 ∧ Q (.int L.length) H) := by
  intro pins s σ H xs us Q I r ⟨a, L, e, ha, hz, q⟩
  subst e
  rw [Vals.ref1 r]
  obtain ⟨o, es, ep, t, ho, hex, hd, hf, _, _, _, pm⟩ := S.raw (show S.St s.heap a L from (I.hok a _ ha).1)
  have e : es.size = L.length := by
    have := pm.length_eq
    rw [List.length_map, List.length_map, Array.length_toList] at this
    exact this
  exact call_len_set ho hex hd hf (by omega) ⟨.int L.length, H, I.tok _, ⟨_, by rw [e]⟩, q⟩
/-- sorted(set) -/
theorem cr_sortSet {S : SK X.prog X.w} {enc : S.κ → PyData} (hc : X.calm = true) (hu : X.A.units + 128 < cLine) : CallR X (.builtin "sorted") (fun xs H Q => ∃ T a, ∃ L : List (S.κ × Value), ∃ ys, xs = [.ref a] ∧ H a = some (setX S a L) ∧ Same T H ∧ Mem enc X.K T L ys ∧
    (∀ L' : List S.κ, L'.Perm (L.map (·.1)) → CanSort (L'.map enc)) ∧ ∀ (L' : List S.κ) p xs', L'.Perm (L.map (·.1)) → H p = none → DpAll X.K T xs' (sortD (L'.map enc)) → Q (.ref p) (upd H p (.lst xs'))) := by
  intro pins s σ H xs us Q I r ⟨T, a, L, ys, e, ha, sT, hm, C, q⟩
  subst e
  rw [Vals.ref1 r]
  obtain ⟨o, es, ep, t, ho, hex, hd, hf, hsz, hr, hl, pm⟩ := S.raw (show S.St s.heap a L from (I.hok a _ ha).1)
  have coll : Coll X.prog X.w X.A.in1 s (.ref a) (fun us => us.Perm (L.map (·.2))) := fun E R k => by
    refine collect_set (A := X.A.in1) (I.ok.hd hc) ⟨o, ho, hex.1, hd⟩ hf hsz hr hl fun s' out hk _ g1 o1 hp => ?_
    have e : s' = { s with heap := s'.heap, drawn := s'.drawn, toks := s'.toks } := by
      obtain ⟨h', g', d', tk', os'⟩ := s'
      have f1 : g' = s.gens := g1
      have f2 : os' = s.os := o1
      subst f1; subst f2
      rfl
    rw [e]
    exact k _ _ _ out hk (hp.trans pm)
  refine sorted_coll coll fun h' dr tk vs hk hp => ?_
  -- the values in the set's order, with their keys
  obtain ⟨L1, p1, e1⟩ : ∃ L1 : List (S.κ × Value), L1.Perm L ∧ L1.map (·.2) = vs := by
    have key : ∀ {vs us : List Value}, vs.Perm us → ∀ L : List (S.κ × Value), L.map (·.2) = us → ∃ L1 : List (S.κ × Value), L1.Perm L ∧ L1.map (·.2) = vs := by
      intro vs us h
      induction h with
      | nil => intro L e; exact ⟨L, List.Perm.refl _, e⟩
      | cons x _ ih =>
        intro L e
        cases L with
        | nil => cases e
        | cons p L =>
          rw [List.map_cons] at e
          injection e with e1 e2
          obtain ⟨L1, q1, q2⟩ := ih L e2
          exact ⟨p :: L1, q1.cons p, by rw [List.map_cons, q2, e1]⟩
      | swap x y l =>
        intro L e
        cases L with
        | nil => cases e
        | cons p L =>
          cases L with
          | nil => cases e
          | cons q L =>
            rw [List.map_cons, List.map_cons] at e
            injection e with e1 e2
            injection e2 with e2 e3
            exact ⟨q :: p :: L, List.Perm.swap _ _ _, by rw [List.map_cons, List.map_cons, e1, e2, e3]⟩
      | trans _ _ ih1 ih2 =>
        intro L e
        obtain ⟨L2, q1, q2⟩ := ih2 L e
        obtain ⟨L3, q3, q4⟩ := ih1 L2 q2
        exact ⟨L3, q3.trans q1, q4⟩
    exact key hp L rfl
  have each : ∀ p ∈ L, ∃ v, RelV v p.2 ∧ Dp X.K T v (enc p.1) := by
    have go : ∀ {L : List (S.κ × Value)} {ys : List V}, Mem enc X.K T L ys → ∀ p ∈ L, ∃ v, RelV v p.2 ∧ Dp X.K T v (enc p.1) := by
      intro L
      induction L with
      | nil => intro ys _ p hp; cases hp
      | cons q L ih =>
        intro ys ⟨h1, h2⟩ p hp
        cases h1 with
        | cons r1 r2 =>
          cases h2 with
          | cons d1 d2 =>
            rcases List.mem_cons.mp hp with rfl | hp
            · exact ⟨_, r1, d1⟩
            · exact ih ⟨r2, d2⟩ p hp
    exact go hm
  obtain ⟨zs, z1, z2⟩ := mem_of (enc := enc) (K := X.K) (T := T) (L := L1) fun p hp => each p (p1.mem_iff.mp hp)
  rw [e1] at z1
  have pk : (L1.map (·.1)).Perm (L.map (·.1)) := p1.map _
  have z3 : DpAll X.K T zs ((L1.map (·.1)).map enc) := by rw [List.map_map]; exact z2
  have Cs := C _ pk
  refine ⟨by rw [← Paired.length z1, dps_len z3]; exact small_sz Cs.few, ?_⟩
  refine sort_list (s := { s with drawn := dr }) (by show X.A.units + 1 + 64 < cLine; omega) I.drawn sT hk z3 z1 Cs fun s' xs' hpp hdd I' => ⟨.ref h'.objs.size, _, I', rfl, q _ _ _ pk hpp hdd⟩
end
end Fc
/-! FcSe: sets and sorted(..) as rules of what is read. -/
namespace Fc
open PySem PySem.W PySem.Spec PyProof.Rows L2
section
variable {α : Type} [DecidableEq α] [DatumOrd α]
/-- data of one type that may be sorted -/
class CanT (α : Type) [DecidableEq α] [DatumOrd α] : Prop where
  so : ∀ xs : List α, Sortable (xs.map Datum.toD)
  low : Datum.depth α ≤ 16
instance : CanT Str := ⟨fun xs => Sortable.others fun b => ⟨nofun, nofun⟩, by decide⟩
theorem canT_pair {α β : Type} [DecidableEq α] [DatumOrd α] [DecidableEq β] [DatumOrd β] (h : Datum.depth α ≤ 15 ∧ Datum.depth β ≤ 15) : CanT (α × β) := ⟨fun xs => Sortable.tuples fun b => ⟨_, _, rfl⟩, by
  show max _ _ + 1 ≤ 16
  omega⟩
theorem canT_list {α : Type} [DecidableEq α] [DatumOrd α] (h : Datum.depth α ≤ 15) : CanT (List α) := ⟨fun xs => Sortable.others fun b => ⟨nofun, nofun⟩, by
  show _ + 1 ≤ 16
  omega⟩
instance canT_lt : CanT Lt := canT_pair ⟨by decide, by decide⟩
instance canT_ch : CanT (List Lt) := canT_list (by decide)
instance canT_cd : CanT (Int × List Lt) := canT_pair ⟨by decide, by decide⟩
theorem can_sort [CanT α] (xs : List α) (h : xs.length ≤ 1000000) : CanSort (xs.map Datum.toD) where
  al := AllAlike.of fun a b => DatumOrd.alike a b
  so := CanT.so xs
  few := by rw [List.length_map]; exact h
  low := fun d hd => by
    obtain ⟨a, _, rfl⟩ := List.mem_map.mp hd
    exact Nat.le_trans (Datum.depth_le a) CanT.low
end
section
variable {K : PySem.W.Frag} {P : Program} {w : World}
/-- sorted(xs) -/
theorem cld_sort {α : Type} [DecidableEq α] [DatumOrd α] [CanT α] {xs : List α} (h : xs.length ≤ 1000000) : Cld (rSortD P w K) [dat K (.list (xs.map Datum.toD))] (dat K (.list ((sortT xs).map Datum.toD))) := fun B H vs Q s hv q => by
  cases hv with
  | cons h1 t =>
    cases t
    refine ⟨B, _, _, rfl, s, .lst h1, can_sort xs h, fun p xs' hp hd => ?_⟩
    have g := Grow.laid (o := .lst xs') s hp
    rw [sortT_map] at hd
    exact q _ _ _ g (Dp.lst (.inl (.inl upd_same)) (dps_mono g.bup _ _ hd))
theorem cldN_sort {α : Type} [DecidableEq α] [DatumOrd α] [CanT α] {xs : List α} (h : xs.length ≤ 1000000) : CldN (rSortD P w K) [dat K (.list (xs.map Datum.toD))] (lstO K ((sortT xs).map Datum.toD)) := fun B H vs Q s hv q => by
  cases hv with
  | cons h1 t =>
    cases t
    refine ⟨B, _, _, rfl, s, .lst h1, can_sort xs h, fun p xs' hp hd => ?_⟩
    rw [sortT_map] at hd
    exact q _ _ hp ⟨_, upd_same, hd⟩
theorem cld_sortT {α : Type} [DecidableEq α] [DatumOrd α] [CanT α] {xs : List α} (h : xs.length ≤ 1000000) : Cld (rSortD P w K) [dat K (.tuple (xs.map Datum.toD))] (dat K (.list ((sortT xs).map Datum.toD))) := fun B H vs Q s hv q => by
  cases hv with
  | cons h1 t =>
    cases t
    refine ⟨B, _, _, rfl, s, .tup h1, can_sort xs h, fun p xs' hp hd => ?_⟩
    have g := Grow.laid (o := .lst xs') s hp
    rw [sortT_map] at hd
    exact q _ _ _ g (Dp.lst (.inl (.inl upd_same)) (dps_mono g.bup _ _ hd))
/-- sorted(d) -/
theorem cld_sortK {kvs : List (Lt × PyData)} (h : kvs.length ≤ 1000000) : Cld (rSortD P w K) [ldR P w K kvs] (dat K (.list ((sortT (kvs.map (·.1))).map litD))) := fun B H vs Q s hv q => by
  cases hv with
  | cons h1 t =>
    cases t
    obtain ⟨a, kv, rfl, x, dv⟩ := h1
    have e : kv.map (fun p => litD p.1) = (kvs.map (·.1)).map Datum.toD := by
      rw [← dv.keys, List.map_map]
      rfl
    have hs : Src P w K B H (.ref a) ((kvs.map (·.1)).map Datum.toD) := by
      rw [← e]
      refine .dic (x.mono (Same.refl B) ?_)
      obtain ⟨xs, ep, h1, _⟩ := x.ex
      rw [h1]
      exact s _ _ h1
    refine ⟨B, _, _, rfl, s, hs, can_sort _ (by rw [List.length_map]; exact h), fun p xs' hp hd => ?_⟩
    have g := Grow.laid (o := .lst xs') s hp
    rw [sortT_map] at hd
    exact q _ _ _ g (Dp.lst (.inl (.inl upd_same)) (dps_mono g.bup _ _ hd))
/-- a set of these -/
def setR (S : SK P w) (enc : S.κ → PyData) (K : PySem.W.Frag) (ks : List S.κ) : Rp where
  p := fun v B => ∃ a, ∃ L : List (S.κ × Value), ∃ ys, v = .ref a ∧ B a = some (setX S a L) ∧ Mem enc K B L ys ∧ (∀ p ∈ L, p.1 ∈ ks) ∧ (∀ k ∈ ks, k ∈ L.map (fun p : S.κ × Value => p.1)) ∧ (L.map (fun p : S.κ × Value => p.1)).Nodup ∧ L.length < 64
  mono := fun s ⟨a, L, ys, e, h, m, r⟩ => ⟨a, L, ys, e, s _ _ h, ⟨m.1, dps_mono s _ _ m.2⟩, r⟩
theorem cld_set {S : SK P w} {enc : S.κ → PyData} {ks : List S.κ} {r : Rp} (h : r = dat K (.list (ks.map enc)) ∨ r = dat K (.tuple (ks.map enc))) (hz : ks.length < 64) : Cld (rSetOf S enc K) [r] (setR S enc K ks) := fun B H vs Q s hv q => by
  cases hv with
  | cons h1 t =>
    cases t
    refine ⟨B, _, ks, rfl, s, ?_, hz, fun a L ys hn hm m1 m2 m3 m4 => ?_⟩
    · rcases h with rfl | rfl
      · exact .inl h1
      · exact .inr h1
    · have g := Grow.laid (o := setX S a L) s hn
      exact q _ _ _ g ⟨a, L, ys, rfl, upd_same, ⟨hm.1, dps_mono g.bup _ _ hm.2⟩, m1, m2, m3, m4⟩
theorem cld_lenSet {S : SK P w} {enc : S.κ → PyData} {ks : List S.κ} (hn : ks.Nodup) : Cld (fun xs H Q => ∃ a, ∃ L : List (S.κ × Value), xs = [.ref a] ∧ H a = some (setX S a L) ∧ L.length < 64 ∧ Q (.int L.length) H) [setR S enc K ks] (dat K (.int ks.length)) := fun B H vs Q s hv q => by
  cases hv with
  | cons h1 t =>
    cases t
    obtain ⟨a, L, ys, rfl, h, m, m1, m2, m3, m4⟩ := h1
    have e : L.length = ks.length := by
      have := ((List.perm_ext_iff_of_nodup m3 hn).mpr fun k => ⟨fun hk => by obtain ⟨p, hp, rfl⟩ := List.mem_map.mp hk; exact m1 p hp, m2 k⟩).length_eq
      rw [List.length_map] at this
      exact this
    refine ⟨a, L, rfl, s _ _ h, m4, ?_⟩
    rw [e]
    exact q _ B H (Grow.refl s) (Dp.int _)
theorem cld_sortSet {S : SK P w} {enc : S.κ → PyData} {ks dd : List S.κ} {ds : List PyData} (hn : dd.Nodup) (hd : ∀ k, k ∈ dd ↔ k ∈ ks) (hs : ∀ L' : List S.κ, L'.Perm dd → CanSort (L'.map enc) ∧ sortD (L'.map enc) = ds) :
    Cld (fun xs H Q => ∃ T a, ∃ L : List (S.κ × Value), ∃ ys, xs = [.ref a] ∧ H a = some (setX S a L) ∧ Same T H ∧ Mem enc K T L ys ∧
    (∀ L' : List S.κ, L'.Perm (L.map (·.1)) → CanSort (L'.map enc)) ∧ ∀ (L' : List S.κ) p xs', L'.Perm (L.map (·.1)) → H p = none → DpAll K T xs' (sortD (L'.map enc)) → Q (.ref p) (upd H p (.lst xs'))) [setR S enc K ks] (dat K (.list ds)) := fun B H vs Q s hv q => by
  cases hv with
  | cons h1 t =>
    cases t
    obtain ⟨a, L, ys, rfl, h, m, m1, m2, m3, m4⟩ := h1
    have pm : (L.map (·.1)).Perm dd := (List.perm_ext_iff_of_nodup m3 hn).mpr fun k => ⟨fun hk => by obtain ⟨p, hp, rfl⟩ := List.mem_map.mp hk; exact (hd _).mpr (m1 p hp), fun hk => m2 k ((hd k).mp hk)⟩
    refine ⟨B, a, L, ys, rfl, s _ _ h, s, m, fun L' p => (hs L' (p.trans pm)).1, fun L' p xs' pl hp hx => ?_⟩
    rw [(hs L' (pl.trans pm)).2] at hx
    have g := Grow.laid (o := .lst xs') s hp
    exact q _ _ _ g (Dp.lst (.inl (.inl upd_same)) (dps_mono g.bup _ _ hx))
end
section
variable {X : Cx} {a : Expr} {ρ ρ1 : Rho} {p p2 q pos : Pos}
theorem d_setL {ks : List Lt} (hu : X.A.units + 64 < cLine) (hm : X.mg "set" = none) (ha : PE X a (tE ρ ρ1 (dat X.K (.list (ks.map litD))))) (hz : ks.length < 64) (hc : X.calm = true := by rfl) (hg : Gl X "set" := by rfl) (hst : starEach [a] X.env = (false, eval a X.env) :: starEach [] X.env := by rfl) : PE X (.Call (.Name "set" p) [a] [] pos) (tE ρ ρ1 (setR (skL X.prog X.w) (fun l => litD l) X.K ks)) :=
  d_callTy (cr_setOf encL hc hu) (cld_set (.inl rfl) hz) hg hm PyProof.Rows.boot_set (a_cons ha a_nil hst) (by decide) (by decide) hst
theorem d_setS {ks : List Str} {r : Rp} (hu : X.A.units + 64 < cLine) (hm : X.mg "set" = none) (ha : PE X a (tE ρ ρ1 r)) (hr : r = dat X.K (.list (ks.map .str)) ∨ r = dat X.K (.tuple (ks.map .str))) (hz : ks.length < 64) (hc : X.calm = true := by rfl) (hg : Gl X "set" := by rfl) (hst : starEach [a] X.env = (false, eval a X.env) :: starEach [] X.env := by rfl) : PE X (.Call (.Name "set" p) [a] [] pos) (tE ρ ρ1 (setR (skS X.prog X.w) (fun k => .str k) X.K ks)) :=
  d_callTy (cr_setOf encS hc hu) (cld_set hr hz) hg hm PyProof.Rows.boot_set (a_cons ha a_nil hst) (by decide) (by decide) hst
/-- sorted(set(literals)) -/
theorem d_sortSetL {ks dd : List Lt} (hu : X.A.units + 128 < cLine) (hm : X.mg "sorted" = none) (ha : PE X a (tE ρ ρ1 (setR (skL X.prog X.w) (fun l => litD l) X.K ks))) (hn : dd.Nodup) (hd : ∀ k, k ∈ dd ↔ k ∈ ks) (hz : dd.length ≤ 1000000) (hc : X.calm = true := by rfl) (hg : Gl X "sorted" := by rfl) (hst : starEach [a] X.env = (false, eval a X.env) :: starEach [] X.env := by rfl) : PE X (.Call (.Name "sorted" p) [a] [] pos) (tE ρ ρ1 (dat X.K (.list ((sortT dd).map litD)))) :=
  d_callB (cr_sortSet hc hu) (cld_sortSet (S := skL X.prog X.w) (enc := fun l => litD l) hn hd fun (L' : List Lt) (pl : L'.Perm dd) => ⟨can_sort (α := Lt) L' (by rw [pl.length_eq]; exact hz), (sortT_map (α := Lt) L').trans (by rw [sortT_congr pl]; rfl)⟩) hg hm (by decide +kernel) (a_cons ha a_nil hst) (by decide) (by decide) hst
theorem d_sortSetS {ks dd : List Str} (hu : X.A.units + 128 < cLine) (hm : X.mg "sorted" = none) (ha : PE X a (tE ρ ρ1 (setR (skS X.prog X.w) (fun k => .str k) X.K ks))) (hn : dd.Nodup) (hd : ∀ k, k ∈ dd ↔ k ∈ ks) (hz : dd.length ≤ 1000000) (hc : X.calm = true := by rfl) (hg : Gl X "sorted" := by rfl) (hst : starEach [a] X.env = (false, eval a X.env) :: starEach [] X.env := by rfl) : PE X (.Call (.Name "sorted" p) [a] [] pos) (tE ρ ρ1 (dat X.K (.list ((sortT dd).map .str)))) :=
  d_callB (cr_sortSet hc hu) (cld_sortSet (S := skS X.prog X.w) (enc := fun k => .str k) hn hd fun (L' : List Str) (pl : L'.Perm dd) => ⟨can_sort (α := Str) L' (by rw [pl.length_eq]; exact hz), (sortT_map (α := Str) L').trans (by rw [sortT_congr pl]; rfl)⟩) hg hm (by decide +kernel) (a_cons ha a_nil hst) (by decide) (by decide) hst
/-- sorted(xs) -/
theorem d_sorted {α : Type} [DecidableEq α] [DatumOrd α] [CanT α] {xs : List α} (hu : X.A.units + 128 < cLine) (hm : X.mg "sorted" = none) (ha : PE X a (tE ρ ρ1 (dat X.K (.list (xs.map Datum.toD))))) (hz : xs.length ≤ 1000000) (hc : X.calm = true := by rfl) (hg : Gl X "sorted" := by rfl) (hst : starEach [a] X.env = (false, eval a X.env) :: starEach [] X.env := by rfl) : PE X (.Call (.Name "sorted" p) [a] [] pos) (tE ρ ρ1 (dat X.K (.list ((sortT xs).map Datum.toD)))) :=
  d_callB (call_sortD hc hu) (cld_sort hz) hg hm (by decide +kernel) (a_cons ha a_nil hst) (by decide) (by decide) hst
theorem d_sortedT {α : Type} [DecidableEq α] [DatumOrd α] [CanT α] {xs : List α} (hu : X.A.units + 128 < cLine) (hm : X.mg "sorted" = none) (ha : PE X a (tE ρ ρ1 (dat X.K (.tuple (xs.map Datum.toD))))) (hz : xs.length ≤ 1000000) (hc : X.calm = true := by rfl) (hg : Gl X "sorted" := by rfl) (hst : starEach [a] X.env = (false, eval a X.env) :: starEach [] X.env := by rfl) : PE X (.Call (.Name "sorted" p) [a] [] pos) (tE ρ ρ1 (dat X.K (.list ((sortT xs).map Datum.toD)))) :=
  d_callB (call_sortD hc hu) (cld_sortT hz) hg hm (by decide +kernel) (a_cons ha a_nil hst) (by decide) (by decide) hst
theorem d_sortedK {kvs : List (Lt × PyData)} (hu : X.A.units + 128 < cLine) (hm : X.mg "sorted" = none) (ha : PE X a (tE ρ ρ1 (ldR X.prog X.w X.K kvs))) (hz : kvs.length ≤ 1000000) (hc : X.calm = true := by rfl) (hg : Gl X "sorted" := by rfl) (hst : starEach [a] X.env = (false, eval a X.env) :: starEach [] X.env := by rfl) : PE X (.Call (.Name "sorted" p) [a] [] pos) (tE ρ ρ1 (dat X.K (.list ((sortT (kvs.map (·.1))).map litD)))) :=
  d_callB (call_sortD hc hu) (cld_sortK hz) hg hm (by decide +kernel) (a_cons ha a_nil hst) (by decide) (by decide) hst
/-- len(set(texts)), all different -/
theorem d_lenSetS {ks : List Str} (hm : X.mg "len" = none) (ha : PE X a (tE ρ ρ1 (setR (skS X.prog X.w) (fun k => .str k) X.K ks))) (hn : ks.Nodup) (hg : Gl X "len" := by rfl) (hst : starEach [a] X.env = (false, eval a X.env) :: starEach [] X.env := by rfl) : PE X (.Call (.Name "len" p) [a] [] pos) (tE ρ ρ1 (dat X.K (.int ks.length))) :=
  d_callB (cr_lenSet (S := skS X.prog X.w)) (cld_lenSet hn) hg hm PySem.boot_len (a_cons ha a_nil hst) (by decide) (by decide) hst
end
end Fc
/-! FcK: containers that a slot owns; dicts by what is read. -/
namespace Fc
open PySem PySem.W PySem.Spec PyProof.Rows L2

/-! ### operations with a container that a slot owns -/
def OpdO (r : R2) (c : Ow) (rb rc : Rp) : Prop := ∀ B H a y (Q : VK), Same B H → c.p a B H → rb.p y B → (∀ v B' H', Grow B H B' H' → rc.p v B' → Q v H') → r (.ref a) y H Q
def OpdR (r : R2) (ra : Rp) (c : Ow) (rc : Rp) : Prop := ∀ B H x a (Q : VK), Same B H → ra.p x B → c.p a B H → (∀ v B' H', Grow B H B' H' → rc.p v B' → Q v H') → r x (.ref a) H Q
/-- c[k] = v -/
def OpdP (t : TSet) (c : Ow) (rk rv : Rp) (c' : Ow) : Prop := ∀ B H a k v (Q : Hp → Prop), Same B H → c.p a B H → rk.p k B → rv.p v B → (∀ o, c'.p a B (upd H a o) → Q (upd H a o)) → t (.ref a) k v H Q
section
variable {X : Cx} {b : Expr} {x : Str} {p pos : Pos} {ρ ρ1 ρ2 : Rho} {c : Ow} {ra rb rc : Rp} {r : R2}
theorem o_left {i : Nat} (hk : OpdO r c rb rc) (hi : ρ[i]? = some (.own c)) (hi1 : ρ1[i]? = some (.own c)) {σ : L2.St} {H : Hp} {Q : VK} (h : tE ρ ρ1 rc σ H Q) : tOp r (tVar i) (tE ρ ρ1 rb) σ H Q := by
  obtain ⟨F, B, e, q⟩ := h
  obtain ⟨a, h1, _⟩ := e.own i c hi
  refine ⟨.ref a, h1, F, B, e, fun y H1 B1 s1 e1 hy => ?_⟩
  obtain ⟨a', h2, _, _, h5⟩ := e1.own i c hi1
  obtain rfl : a = a' := by rw [h1] at h2; cases h2; rfl
  exact hk B1 H1 a y Q e1.sp.bas h5 hy fun v B' H' g hv => q v H' B' (s1.trans g.bup) (e1.grow g) hv
theorem o_right {i : Nat} (hk : OpdR r ra c rc) (hi1 : ρ1[i]? = some (.own c)) {σ : L2.St} {H : Hp} {Q : VK} (h : tE ρ ρ1 rc σ H Q) : tOp r (tE ρ ρ1 ra) (tVar i) σ H Q := by
  obtain ⟨F, B, e, q⟩ := h
  refine ⟨F, B, e, fun y H1 B1 s1 e1 hy => ?_⟩
  obtain ⟨a, h2, _, _, h5⟩ := e1.own i c hi1
  exact ⟨.ref a, h2, hk B1 H1 y a Q e1.sp.bas hy h5 fun v B' H' g hv => q v H' B' (s1.trans g.bup) (e1.grow g) hv⟩
/-- x[b], x owned -/
theorem d_ixO (i : Nat) (hr : IxR X r) (hk : OpdO r c rb rc) (hb : PE X b (tE ρ ρ1 rb)) (hi : ρ[i]? = some (.own c) := by rfl) (hi1 : ρ1[i]? = some (.own c) := by rfl) (hN : X.N[i]? = some x := by rfl) (hv : Vis X.env.scope x := by first | exact Or.inl rfl | exact Or.inr (Or.inl rfl) | exact Or.inr (Or.inr rfl)) (hd : (x == ("__debug__" : Str)) = false := by decide)
    (hcd : (x == ("__classdict__" : Str)) = false := by decide) (hs : PlainIx b := by intro _ _; rfl) : PE X (.Subscript (.Name x p) b pos) (tE ρ ρ1 rc) :=
  PE.weak (pe_ix hr (pe_var hN hv hd hcd) hb hs) fun σ H Q h => o_left hk hi hi1 h
/-- a op x, x owned -/
theorem d_cmpR {a : Expr} (i : Nat) {op : CmpOp} (ho : OpR X (compareOp op) r) (hk : OpdR r ra c rc) (ha : PE X a (tE ρ ρ1 ra)) (hi1 : ρ1[i]? = some (.own c) := by rfl) (hN : X.N[i]? = some x := by rfl) (hv : Vis X.env.scope x := by first | exact Or.inl rfl | exact Or.inr (Or.inl rfl) | exact Or.inr (Or.inr rfl)) (hd : (x == ("__debug__" : Str)) = false := by decide)
    (hcd : (x == ("__classdict__" : Str)) = false := by decide) (hm : behindInMarks op (.Name x p) = false := by first | exact nomark _ | rfl) : PE X (.Compare a [op] [.Name x p] pos) (tE ρ ρ1 rc) :=
  PE.weak (pe_cmpR ho ha (pe_var hN hv hd hcd) hm) fun σ H Q h => o_right hk hi1 h
theorem t_cmpR {K : PySem.W.Frag} {a : Expr} {k : Bool} (i : Nat) {op : CmpOp} (ho : OpR X (compareOp op) r) (hk : OpdR r ra c (dat K (.bool k))) (ha : PE X a (tE ρ ρ1 ra)) (hi1 : ρ1[i]? = some (.own c) := by rfl) (hN : X.N[i]? = some x := by rfl) (hv : Vis X.env.scope x := by first | exact Or.inl rfl | exact Or.inr (Or.inl rfl) | exact Or.inr (Or.inr rfl)) (hd : (x == ("__debug__" : Str)) = false := by decide)
    (hcd : (x == ("__classdict__" : Str)) = false := by decide) (hm : behindInMarks op (.Name x p) = false := by first | exact nomark _ | rfl) : PT X (.Compare a [op] [.Name x p] pos) (tT ρ ρ1 k) :=
  PT.weak (pt_cmpR ho ha (pe_var hN hv hd hcd) hm) fun σ H Q ⟨F, B, e, q⟩ => o_right hk hi1 ⟨F, B, e, fun v H' B' s e' hv => by
    cases hv
    exact ⟨k, rfl, q H' B' s e'⟩⟩
/-- x op b, x owned -/
theorem t_cmpL {K : PySem.W.Frag} {k : Bool} (i : Nat) {op : CmpOp} (ho : OpR X (compareOp op) r) (hk : OpdO r c rb (dat K (.bool k))) (hb : PE X b (tE ρ ρ1 rb)) (hi : ρ[i]? = some (.own c) := by rfl) (hi1 : ρ1[i]? = some (.own c) := by rfl) (hN : X.N[i]? = some x := by rfl) (hv : Vis X.env.scope x := by first | exact Or.inl rfl | exact Or.inr (Or.inl rfl) | exact Or.inr (Or.inr rfl)) (hd : (x == ("__debug__" : Str)) = false := by decide)
    (hcd : (x == ("__classdict__" : Str)) = false := by decide) (hm : behindInMarks op b = false := by first | exact nomark _ | rfl) : PT X (.Compare (.Name x p) [op] [b] pos) (tT ρ ρ1 k) :=
  PT.weak (pt_cmpR ho (pe_var hN hv hd hcd) hb hm) fun σ H Q ⟨F, B, e, q⟩ => o_left hk hi hi1 ⟨F, B, e, fun v H' B' s e' hv => by
    cases hv
    exact ⟨k, rfl, q H' B' s e'⟩⟩
/-- x[k] = e, x owned -/
theorem s_put {e k : Expr} {pos' : Pos} {rk rv : Rp} {t : TSet} {c' : Ow} (i : Nat) (hp : PSet X t) (ho : OpdP t c rk rv c') (he : PE X e (tE ρ ρ1 rv)) (hk : PE X k (tE ρ1 ρ2 rk)) (hi1 : ρ1[i]? = some (.own c) := by rfl) (hi2 : ρ2[i]? = some (.own c) := by rfl) (hN : X.N[i]? = some x := by rfl)
    (hv : Vis X.env.scope x := by first | exact Or.inl rfl | exact Or.inr (Or.inl rfl) | exact Or.inr (Or.inr rfl)) (hd : (x == ("__debug__" : Str)) = false := by decide) (hcd : (x == ("__classdict__" : Str)) = false := by decide)
    (hs : swapsWithSole [.Subscript (.Name x p) k pos'] e pos.line X.env = pure false := by rfl) (hw : swappedStores [.Subscript (.Name x p) k pos'] e X.env = pure none := by rfl) (h1 : (assignEach [.Subscript (.Name x p) k pos'] X.env).map (·.2) = [assign (.Subscript (.Name x p) k pos') X.env] := by rfl)
    (ha : ∀ v, assign (.Subscript (.Name x p) k pos') X.env v = (do
      let ov ← holding [v] (eval (.Name x p) X.env)
      let iv ← holding [v, ov] (eval k X.env)
      standAt pos'
      holding [v, ov, iv] (setItem ov iv v)
      release [v, ov, iv] []) := by intro _; rfl) : PS X (.Assign [.Subscript (.Name x p) k pos'] e pos) (tS ρ (.nx (ρ2.set i (.own c')))) :=
  PS.weak (ps_asg he (pg_sub (pe_var hN hv hd hcd) hk hp ha) hs hw h1) fun D σ H ⟨F, B, e0, q⟩ => ⟨F, B, e0, fun v H1 B1 s1 e1 hv => by
    obtain ⟨a, h1, _⟩ := e1.own i c hi1
    refine ⟨.ref a, h1, F, B1, e1, fun y H2 B2 s2 e2 hy => ?_⟩
    obtain ⟨a', h2, _, _, h5⟩ := e2.own i c hi2
    obtain rfl : a = a' := by rw [h1] at h2; cases h2; rfl
    exact ho B2 H2 a y v _ e2.sp.bas h5 hy (rv.mono s2 hv) fun o hc => q σ _ B2 (s1.trans s2) (e2.mut hi2 h1 hc)⟩
end

/-! ### lists that a slot owns -/
section
variable {X : Cx} {e : Expr} {x : Str} {p apos cpos : Pos} {ρ ρ1 : Rho} {ds : List PyData} {d : PyData}
theorem lst_at {K : PySem.W.Frag} {B H : Hp} {a : Addr} (h : (lstO K ds).p a B H) (s : Same B H) : Dp K H (.ref a) (.list ds) := by
  obtain ⟨vs, h1, h2⟩ := h
  exact .lst (.inl (.inl h1)) (dps_mono s _ _ h2)
theorem opdO_ixL {K : PySem.W.Frag} {i : Int} (h : atI ds i = some d) : OpdO (rIxL K) (lstO K ds) (dat K (.int i)) (dat K d) := fun B H a y Q s ⟨vs, h1, h2⟩ hy q => by
  rw [dp_int hy]
  obtain ⟨v, e, hd⟩ := atI_dps h2 h
  exact ⟨a, vs, i, v, rfl, rfl, .inl (.inl h1), e, q v B H (Grow.refl s) hd⟩
theorem opdO_neL {K : PySem.W.Frag} {es : List PyData} {b : Bool} (h1 : SeqAt.shaped (.list ds) = true) (h2 : SeqAt.shaped (.list es) = true) (h : (!PyData.eqv (.list ds) (.list es)) = b) : OpdO (rNeD K) (lstO K ds) (dat K (.list es)) (dat K (.bool b)) := fun B H a y Q s hc hy q => by
  subst h
  exact ⟨_, _, lst_at hc s, dp_mono s _ _ hy, h1, h2, q _ B H (Grow.refl s) (Dp.bl _)⟩
/-- x.append(e) -/
theorem d_app (i : Nat) (he : PE X e (tE ρ ρ1 (dat X.K d))) (hz : ds.length < 1000000) (hi : ρ[i]? = some (.own (lstO X.K ds)) := by rfl) (hi1 : ρ1[i]? = some (.own (lstO X.K ds)) := by rfl) (hN : X.N[i]? = some x := by rfl)
    (hv : Vis X.env.scope x := by first | exact Or.inl rfl | exact Or.inr (Or.inl rfl) | exact Or.inr (Or.inr rfl)) (hd : (x == ("__debug__" : Str)) = false := by decide) (hcd : (x == ("__classdict__" : Str)) = false := by decide)
    (hbase : attributeBase (.Name x p) "append" X.env (eval (.Name x p) X.env) = eval (.Name x p) X.env := by rfl)
    (hfew : ((backTo cpos (starEach [e] X.env)).all (fun x => !x.1) && (backToKw cpos (keywordEach [] X.env)).all (fun x => x.1.isSome)
      && decide (([e] : List Expr).length + ([] : List Keyword).length + (if ([] : List Keyword).isEmpty then 0 else 1) < 30)) = true := by rfl)
    (hline : (apos.endLine == cpos.line) = true := by rfl) (hs : starEach [e] X.env = (false, eval e X.env) :: starEach [] X.env := by rfl) : PE X (.Call (.Attribute (.Name x p) "append" apos) [e] [] cpos) (tE ρ (ρ1.set i (.own (lstO X.K (ds ++ [d])))) (dat X.K .none)) :=
  PE.weak (pe_bm PySem.F.plainAttrs_list PySem.F.slot_list_append PySem.F.type_list_append mt_append (pe_var hN hv hd hcd) (a_cons he a_nil hs) hbase hfew hline hs rfl) fun σ H Q ⟨F, B, e0, q⟩ => by
    obtain ⟨a, h1, _, _, vs0, h2, _⟩ := e0.own i _ hi
    refine ⟨.ref a, h1, .inl ⟨rfl, vs0, .inl (.inl h2)⟩, F, B, e0, fun ys H1 B1 s1 e1 hy => ?_⟩
    obtain ⟨a', h3, _, _, vs, h5, h6⟩ := e1.own i _ hi1
    obtain rfl : a = a' := by rw [h1] at h3; cases h3; rfl
    cases hy with
    | cons hy t =>
      cases t
      have hl := dps_len h6
      refine ⟨a, vs, _, rfl, rfl, h5, by rw [sizeLine_eq]; omega, ?_⟩
      exact q _ _ B1 s1 (e1.mut hi1 h1 ⟨_, upd_same, dps_app h6 (dps_one hy)⟩) Dp.non
/-- x.pop() -/
theorem d_pop (i : Nat) (hl : ds.getLast? = some d) (hi : ρ[i]? = some (.own (lstO X.K ds)) := by rfl) (hN : X.N[i]? = some x := by rfl)
    (hv : Vis X.env.scope x := by first | exact Or.inl rfl | exact Or.inr (Or.inl rfl) | exact Or.inr (Or.inr rfl)) (hd : (x == ("__debug__" : Str)) = false := by decide) (hcd : (x == ("__classdict__" : Str)) = false := by decide)
    (hbase : attributeBase (.Name x p) "pop" X.env (eval (.Name x p) X.env) = eval (.Name x p) X.env := by rfl) (hline : (apos.endLine == cpos.line) = true := by rfl) :
    PE X (.Call (.Attribute (.Name x p) "pop" apos) [] [] cpos) (tE ρ (ρ.set i (.own (lstO X.K ds.dropLast))) (dat X.K d)) :=
  PE.weak (pe_bm0 PySem.F.plainAttrs_list PySem.F.slot_list_pop PySem.F.type_list_pop mt_pop (pe_var hN hv hd hcd) hbase hline) fun σ H Q ⟨F, B, e0, q⟩ => by
    obtain ⟨a, h1, _, _, vs, h2, h6⟩ := e0.own i _ hi
    have hl' : ds[vs.length - 1]? = some d := by rw [dps_len h6, ← List.getLast?_eq_getElem?]; exact hl
    obtain ⟨v, hv, hd⟩ := dps_get h6 hl'
    exact ⟨.ref a, h1, .inl ⟨rfl, vs, .inl (.inl h2)⟩, a, vs, v, rfl, rfl, h2, hv, q _ _ B (Same.refl B) (e0.mut hi h1 ⟨_, upd_same, dps_dropLast h6⟩) hd⟩
end
end Fc
/-! FcQ: dicts of literals, dicts of texts, by what is read. -/
namespace Fc
open PySem PySem.W PySem.Spec PyProof.Rows L2
section
variable {K : PySem.W.Frag} {P : Program} {w : World}
theorem dp_lit {B : Hp} {v : V} {l : Lt} (h : Dp K B v (litD l)) : ∃ b, v = .ref b ∧ SqT K B b (litV l) := by
  obtain ⟨b, xs, rfl, h1, h2⟩ := dp_tup h
  cases h2 with
  | cons a1 t =>
    cases t with
    | cons a2 t =>
      cases t
      rw [dp_str a1, dp_bl a2] at h1
      exact ⟨b, rfl, h1⟩
theorem at_base {B H : Hp} {a : Addr} {kv : List (Lt × V)} (s : Same B H) (x : LAt P w K B B a kv) : LAt P w K B H a kv := x.mono (Same.refl B) (by
  obtain ⟨xs, ep, h1, _⟩ := x.ex
  rw [h1]
  exact s _ _ h1)
end
/-! ### the operations -/
def rLdGet (P : Program) (w : World) (K : PySem.W.Frag) : R2 := fun x y H Q => ∃ T a b kv l v, x = .ref a ∧ y = .ref b ∧ Same T H ∧ LAt P w K T H a kv ∧ SqT K T b (litV l) ∧ valV kv l = some v ∧ Q v H
def rLdIn (P : Program) (w : World) (K : PySem.W.Frag) (neg : Bool) : R2 := fun x y H Q => ∃ T a b kv l, x = .ref b ∧ y = .ref a ∧ Same T H ∧ LAt P w K T H a kv ∧ SqT K T b (litV l) ∧ Q (.bl (if neg then !(valV kv l).isSome else (valV kv l).isSome)) H
def tLdSet (P : Program) (w : World) (K : PySem.W.Frag) : TSet := fun o k v H Q => ∃ T a b kv l, o = .ref a ∧ k = .ref b ∧ Same T H ∧ LAt P w K T H a kv ∧ SqT K T b (litV l) ∧ kv.length < sizeLine ∧ ∀ u, LAt P w K T (upd H a u) a (putK kv l v) → Q (upd H a u)
section
variable {X : Cx}
theorem ix_ld (hu : X.A.units + 1 < cLine) : IxR X (rLdGet X.prog X.w X.K) := by
  intro value slice pins s σ H x y v u Q I rx ry ⟨T, a, b, kv, l, z, e1, e2, sT, hx, hk, hl, q⟩ hs
  subst e1; subst e2
  obtain rfl : v = Value.ref a := rx
  obtain rfl : u = Value.ref b := ry
  have x1 : LAt X.prog X.w X.K H H a kv := hx.mono sT rfl
  obtain ⟨xs, ep, g1, g2, g3⟩ := x1.dict I
  exact tail_any g3.typeIs PySem.F.slot_dict_getitem.lookup (l_getItem hu I x1 (same_t sT hk) hl fun w' s' I' r' => ⟨z, H, I', r', q⟩) hs
theorem op_ldIn (hu : X.A.units + 1 < cLine) : OpR X (compareOp .In) (rLdIn X.prog X.w X.K false) := by
  intro pins s σ H x y v u Q I rx ry ⟨T, a, b, kv, l, e1, e2, sT, hx, hk, q⟩
  subst e1; subst e2
  obtain rfl : v = Value.ref b := rx
  obtain rfl : u = Value.ref a := ry
  exact l_in hu I (hx.mono sT rfl) (same_t sT hk) fun s' I' => ⟨.bl _, H, I', rfl, q⟩
theorem op_ldNotIn (hu : X.A.units + 1 < cLine) : OpR X (compareOp .NotIn) (rLdIn X.prog X.w X.K true) := by
  intro pins s σ H x y v u Q I rx ry ⟨T, a, b, kv, l, e1, e2, sT, hx, hk, q⟩
  subst e1; subst e2
  obtain rfl : v = Value.ref b := rx
  obtain rfl : u = Value.ref a := ry
  exact l_notIn hu I (hx.mono sT rfl) (same_t sT hk) fun s' I' => ⟨.bl _, H, I', rfl, q⟩
theorem ps_ld (hu : X.A.units + 1 < cLine) : PSet X (tLdSet X.prog X.w X.K) := by
  intro pins s σ H o i v ov iv u Q I ro ri rv ⟨T, a, b, kv, l, e1, e2, sT, hx, hk, hz, q⟩
  subst e1; subst e2
  obtain rfl : ov = Value.ref a := ro
  obtain rfl : iv = Value.ref b := ri
  exact l_setItem hu I sT hx hk hz rv fun s' o' I' h' => ⟨_, I', q o' h'⟩
end
section
variable {K : PySem.W.Frag} {P : Program} {w : World} {kvs : List (Lt × PyData)} {l : Lt} {d : PyData}
theorem opd_ldGet (h : valD kvs l = some d) : Opd (rLdGet P w K) (ldR P w K kvs) (dat K (litD l)) (dat K d) := fun B H x y Q s ⟨a, kv, e, hx, dv⟩ hy q => by
  obtain ⟨b, rfl, hb⟩ := dp_lit hy
  obtain ⟨v, hv, hd⟩ := dv.some h
  exact ⟨B, a, b, kv, l, v, e, rfl, s, at_base s hx, hb, hv, q v B H (Grow.refl s) hd⟩
theorem opdO_ldGet (h : valD kvs l = some d) : OpdO (rLdGet P w K) (ldO P w K kvs) (dat K (litD l)) (dat K d) := fun B H a y Q s ⟨kv, hx, dv⟩ hy q => by
  obtain ⟨b, rfl, hb⟩ := dp_lit hy
  obtain ⟨v, hv, hd⟩ := dv.some h
  exact ⟨B, a, b, kv, l, v, rfl, rfl, s, hx, hb, hv, q v B H (Grow.refl s) hd⟩
theorem opd_ldIn {neg : Bool} {k : Bool} (h : (if neg then !(valD kvs l).isSome else (valD kvs l).isSome) = k) : Opd (rLdIn P w K neg) (dat K (litD l)) (ldR P w K kvs) (dat K (.bool k)) := fun B H x y Q s hy ⟨a, kv, e, hx, dv⟩ q => by
  obtain ⟨b, rfl, hb⟩ := dp_lit hy
  refine ⟨B, a, b, kv, l, rfl, e, s, at_base s hx, hb, ?_⟩
  rw [dv.isSome, h]
  exact q _ B H (Grow.refl s) (Dp.bl _)
theorem opdR_ldIn {neg : Bool} {k : Bool} (h : (if neg then !(valD kvs l).isSome else (valD kvs l).isSome) = k) : OpdR (rLdIn P w K neg) (dat K (litD l)) (ldO P w K kvs) (dat K (.bool k)) := fun B H x a Q s hy ⟨kv, hx, dv⟩ q => by
  obtain ⟨b, rfl, hb⟩ := dp_lit hy
  refine ⟨B, a, b, kv, l, rfl, rfl, s, hx, hb, ?_⟩
  rw [dv.isSome, h]
  exact q _ B H (Grow.refl s) (Dp.bl _)
theorem dv_len {κ : Type} {B : Hp} {kv : List (κ × V)} {kvs : List (κ × PyData)} (r : DV K B kv kvs) : kv.length = kvs.length := Paired.length r
theorem opdP_ld (hz : kvs.length < 1000000) : OpdP (tLdSet P w K) (ldO P w K kvs) (dat K (litD l)) (dat K d) (ldO P w K (putD kvs l d)) := fun B H a k v Q s ⟨kv, hx, dv⟩ hk hv q => by
  obtain ⟨b, rfl, hb⟩ := dp_lit hk
  exact ⟨B, a, b, kv, l, rfl, rfl, s, hx, hb, by rw [dv_len dv, sizeLine_eq]; omega, fun u hu => q u ⟨_, hu, dv.put l hv⟩⟩
end
/-! ### new dicts -/
section
variable {X : Cx} {ρ ρ1 ρ2 : Rho} {pos : Pos}
theorem n_ld0 : PE X (.Dict [] [] pos) (tN ρ ρ (ldO X.prog X.w X.K [])) := by
  refine ⟨fun pins s σ H Q I ⟨F, B, e, q⟩ => wpAny_Dict_empty ?_⟩
  have hn : H s.heap.objs.size = none := I.hok.fresh (Nat.le_refl _)
  have hb : (s.heap.objs.size == sysModules) = false := beq_eq_false_iff_ne.mpr (Ne.symm (Nat.ne_of_lt I.big))
  have hl : LAt X.prog X.w X.K B (upd H s.heap.objs.size (ldX X.prog X.w s.heap.objs.size [] 0)) s.heap.objs.size [] := ⟨hb, Nat.zero_le _, [], 0, upd_same, List.nodup_nil, .nil⟩
  obtain ⟨e2, f⟩ := e.fresh (c := ldO X.prog X.w X.K []) (o := ldX X.prog X.w s.heap.objs.size [] 0) hn ⟨[], hl, .nil⟩
  refine ⟨.ref s.heap.objs.size, _, I.laid (a := s.heap.objs.size) (o := ldX X.prog X.w s.heap.objs.size [] 0) (t' := s.toks) (fun _ _ q => Heap.get?_push_of_some _ q) (Nat.le_refl _) ?_, rfl, q _ _ B (Same.refl B) e2 f⟩
  refine ⟨⟨_, #[], Heap.get?_push_size _ rfl, ⟨rfl, rfl, rfl⟩, rfl, rfl⟩, ⟨_, Heap.get?_push_size _ rfl⟩, fun h1 h2 ⟨o, es, g1, g2⟩ k => ⟨o, es, k o g1, g2⟩⟩
end

/-! ### walking -/
section
variable {P : Program} {w : World} {K : PySem.W.Frag}
theorem pr_get {α β : Type} {R : α → β → Prop} {xs : List α} {ys : List β} (h : Paired R xs ys) {i : Nat} {y : β} (e : ys[i]? = some y) : ∃ x, xs[i]? = some x ∧ R x y := by
  induction h generalizing i with
  | nil => cases e
  | cons r t ih =>
    cases i with
    | zero => cases e; exact ⟨_, rfl, r⟩
    | succ i => exact ih e
theorem pr_get1 {α β : Type} {R : α → β → Prop} {xs : List α} {ys : List β} (h : Paired R xs ys) {i : Nat} {x : α} (e : xs[i]? = some x) : ∃ y, ys[i]? = some y ∧ R x y := by
  induction h generalizing i with
  | nil => cases e
  | cons r t ih =>
    cases i with
    | zero => cases e; exact ⟨_, rfl, r⟩
    | succ i => exact ih e
theorem map_get' {α : Type} {f : α → Rp} {ds : List α} {i : Nat} {r : Rp} (h : (ds.map f)[i]? = some r) : ∃ d, ds[i]? = some d ∧ r = f d := by
  rw [List.getElem?_map] at h
  cases e : ds[i]? with
  | none => rw [e] at h; cases h
  | some d => rw [e] at h; cases h; exact ⟨d, rfl, rfl⟩
theorem walk_lk {B : Hp} {a : Addr} {kv : List (Lt × V)} {kvs : List (Lt × PyData)} {xs : Raw} {ep : Nat} (h1 : B a = some (ldX P w a xs ep)) (kl : KL K B kv xs) (dv : DV K B kv kvs) : Walk (ItLk P w a xs ep) B (kvs.map fun p => dat K (litD p.1)) where
  go := fun i r B1 H1 h s1 s2 => by
    obtain ⟨p, hp, rfl⟩ := map_get' h
    obtain ⟨q, hq, e, _⟩ := pr_get dv hp
    obtain ⟨x, hx, e2, ht, _⟩ := pr_get1 kl hq
    have hlt := (List.getElem?_eq_some_iff.mp hx).1
    refine ⟨⟨s2 _ _ (s1 _ _ h1), hlt⟩, fun y H2 ⟨e3, z, hz, e4⟩ => ?_⟩
    subst e3; subst e4
    rw [hx] at hz
    cases hz
    refine ⟨B1, Grow.refl s2, ?_⟩
    rw [← e, litD]
    exact Dp.tup (same_t s1 ht) (.cons (.str _) (.cons (.bl _) .nil))
  stop := fun B1 H1 s1 s2 => ⟨s2 _ _ (s1 _ _ h1), by rw [List.length_map, ← Paired.length dv, Paired.length kl]; exact Nat.le_refl _⟩
theorem walk_li {B T0 : Hp} {a : Addr} {kv : List (Lt × V)} {kvs : List (Lt × PyData)} {xs : Raw} {ep : Nat} (h1 : B a = some (ldX P w a xs ep)) (kl : KL K B kv xs) (dv : DV K B kv kvs) : Walk (ItLi P w a kv xs ep) B (kvs.map fun p => dat K (.tuple [litD p.1, p.2])) where
  go := fun i r B1 H1 h s1 s2 => by
    obtain ⟨p, hp, rfl⟩ := map_get' h
    obtain ⟨q, hq, e, hd⟩ := pr_get dv hp
    obtain ⟨x, hx, e2, ht, _⟩ := pr_get1 kl hq
    have hlt := (List.getElem?_eq_some_iff.mp hx).1
    refine ⟨⟨s2 _ _ (s1 _ _ h1), hlt⟩, fun y H2 ⟨T, z, q', hz, hq', e3, hn, e4⟩ => ?_⟩
    subst e3; subst e4
    rw [hx] at hz
    cases hz
    rw [hq] at hq'
    cases hq'
    have g := Grow.laid (o := .tup [.ref x.2.1, q.2]) s2 hn
    refine ⟨_, g, Dp.tup (.inl (.inl upd_same)) (.cons ?_ (.cons (dp_mono (s1.trans g.bup) _ _ hd) .nil))⟩
    rw [← e, litD]
    exact Dp.tup (same_t (s1.trans g.bup) ht) (.cons (.str _) (.cons (.bl _) .nil))
  stop := fun B1 H1 s1 s2 => ⟨s2 _ _ (s1 _ _ h1), by rw [List.length_map, ← Paired.length dv, Paired.length kl]; exact Nat.le_refl _⟩
end
section
variable {X : Cx} {ρ ρ1 : Rho} {tg e : Expr} {kvs : List (Lt × PyData)} {apos cpos : Pos}
/-- for k in d -/
theorem i_lk (h : PE X e (tE ρ ρ1 (ldR X.prog X.w X.K kvs))) : PI X tg e (iD ρ ρ1 (kvs.map fun p => dat X.K (litD p.1))) :=
  PI.weak (pi_lk h) fun σ H R ⟨F, B, e0, q⟩ => ⟨F, B, e0, fun v H1 B1 s1 e1 ⟨a, kv, e2, x, dv⟩ => by
    obtain ⟨xs, ep, h1, _, kl⟩ := x.ex
    exact ⟨a, xs, ep, e2, x.lo, e1.sp.bas _ _ h1, q _ _ B1 s1 e1 (walk_lk h1 kl dv)⟩⟩
/-- for k, v in d.items() -/
theorem i_li {elts : List Expr} {kk : Nat} {tpos : Pos} (h : PE X e (tE ρ ρ1 (ldR X.prog X.w X.K kvs))) (hbase : attributeBase e "items" X.env (eval e X.env) = eval e X.env := by rfl) (hline : (apos.endLine == cpos.line) = true := by rfl) : PI X (.Tuple elts kk tpos) (.Call (.Attribute e "items" apos) [] [] cpos) (iD ρ ρ1 (kvs.map fun p => dat X.K (.tuple [litD p.1, p.2]))) :=
  PI.weak (pi_li h hbase hline) fun σ H R ⟨F, B, e0, q⟩ => ⟨F, B, e0, fun v H1 B1 s1 e1 ⟨a, kv, e2, x, dv⟩ => by
    obtain ⟨xs, ep, h1, _, kl⟩ := x.ex
    exact ⟨a, B1, kv, xs, ep, e2, x.lo, e1.sp.bas _ _ h1, kl, q _ _ B1 s1 e1 (walk_li (T0 := B1) h1 kl dv)⟩⟩
end
/-! ### dict comprehensions -/
/-- a plain local name takes a dict comprehension by a swap -/
theorem sw_dict {k v : Expr} {gs : List Comprehension} {scope : Scope} {pos py : Pos} {y : Str} {l : Nat} {env : PySem.Env} (hk : env.scope.kind = .function) (hy : env.scope.names.lookup y = some .local) (hl : (py.line == pos.line) = true)
    (ha : (scope.names.any fun (n, k) => n == y && (k == .local || k == .cell)) = false) : swapsWith (.DictComp k v gs scope pos) (some (.Name y py)) l env = pure true := by
  have h1 : env.kindOf y = some .local := hy
  have h2 : env.blockKind = .function := by unfold PySem.Env.blockKind; rw [hk]; rfl
  unfold swapsWith
  simp only [h2, h1, ha, Expr.pos, hl]
  rfl
/-- what is made of the first i items -/
def accL (keep : Nat → Bool) (ky : Nat → Lt) (el : Nat → PyData) : Nat → List (Lt × PyData)
  | 0 => []
  | i + 1 => if keep i then putD (accL keep ky el i) (ky i) (el i) else accL keep ky el i
theorem putD_len {κ : Type} [DecidableEq κ] (kvs : List (κ × PyData)) (k : κ) (v : PyData) : (putD kvs k v).length ≤ kvs.length + 1 := by
  unfold putD
  split
  · rw [List.length_map]; omega
  · rw [List.length_append, List.length_singleton]; omega
theorem accL_len (keep : Nat → Bool) (ky : Nat → Lt) (el : Nat → PyData) : ∀ i, (accL keep ky el i).length ≤ i
  | 0 => Nat.le_refl _
  | i + 1 => by
    unfold accL
    have := accL_len keep ky el i
    have h2 := putD_len (accL keep ky el i) (ky i) (el i)
    split <;> omega
section
variable {X : Cx} {kx vx tg iter : Expr} {ifs : List Expr} {scope : Scope} {own : List (Str × Nat)} {pos spos py : Pos} {ρ ρ0 : Rho} {items : List Rp} {g : TG} {y : Str}
structure DlOk (X : Cx) (kx vx tg iter : Expr) (ifs : List Expr) (scope : Scope) (own : List (Str × Nat)) (ρ ρ0 : Rho) (items : List Rp) (g : TG) (ρs ρb : Nat → Rho) (keep : Nat → Bool) (ky : Nat → Lt) (el : Nat → PyData) : Prop where
  iter : PI X tg iter (iD ρ ρ0 items)
  blk : BlkOk X.N X.env.scope scope own
  tgt : ∀ (s : Shared) (H : Hp) (C : Addr) (cl : List (Str × Addr)) (fp : List Addr), PG (X.blk s H scope (compEnvC scope cl C X.env) fp) tg g
  sub : Sub ρ0 (ρs 0)
  noat : ∀ i, NoAt (ρs i) (own.map (·.2))
  tg : ∀ (i : Nat) r, items[i]? = some r → Tg g (own.map (·.2)) (ρs i) r (ρb i)
  test : ∀ (i : Nat), i < items.length → ∀ (s : Shared) (H : Hp) (C : Addr) (cl : List (Str × Addr)) (fp : List Addr), PTs (X.blk s H scope (compEnvC scope cl C X.env) fp) ifs (tT (ρb i) (ρb i) (keep i))
  elem : ∀ (i : Nat), i < items.length → keep i = true → ∃ ρk ρ', Sub ρ' (ρs (i + 1)) ∧ (∀ (s : Shared) (H : Hp) (C : Addr) (cl : List (Str × Addr)) (fp : List Addr), PE (X.blk s H scope (compEnvC scope cl C X.env) fp) kx (tE (ρb i) ρk (dat X.K (litD (ky i))))) ∧
    ∀ (s : Shared) (H : Hp) (C : Addr) (cl : List (Str × Addr)) (fp : List Addr), PE (X.blk s H scope (compEnvC scope cl C X.env) fp) vx (tE ρk ρ' (dat X.K (el i)))
  skip : ∀ (i : Nat), i < items.length → keep i = false → Sub (ρb i) (ρs (i + 1))
  few : items.length ≤ 1000000
theorem dl_run {ρs ρb : Nat → Rho} {keep : Nat → Bool} {ky : Nat → Lt} {el : Nat → PyData} (L : DlOk X kx vx tg iter ifs scope own ρ ρ0 items g ρs ρb keep ky el) :
    ∃ tt tk te, (∀ (s : Shared) (H : Hp) (C : Addr) (cl : List (Str × Addr)) (fp : List Addr), PTs (X.blk s H scope (compEnvC scope cl C X.env) fp) ifs tt) ∧ (∀ (s : Shared) (H : Hp) (C : Addr) (cl : List (Str × Addr)) (fp : List Addr), PE (X.blk s H scope (compEnvC scope cl C X.env) fp) kx tk) ∧ (∀ (s : Shared) (H : Hp) (C : Addr) (cl : List (Str × Addr)) (fp : List Addr), PE (X.blk s H scope (compEnvC scope cl C X.env) fp) vx te) ∧
      ∀ σ H Q, tN ρ (ρs items.length) (ldO X.prog X.w X.K (accL keep ky el items.length)) σ H Q → tDl X.prog X.w X.K (iD ρ ρ0 items) g tt tk te (own.map (·.2)) σ H Q := by
  let ιt := { p : Rho × Bool // ∀ (s : Shared) (H : Hp) (C : Addr) (cl : List (Str × Addr)) (fp : List Addr), PTs (X.blk s H scope (compEnvC scope cl C X.env) fp) ifs (tT p.1 p.1 p.2) }
  let ιk := { p : Rho × Rho × Lt // ∀ (s : Shared) (H : Hp) (C : Addr) (cl : List (Str × Addr)) (fp : List Addr), PE (X.blk s H scope (compEnvC scope cl C X.env) fp) kx (tE p.1 p.2.1 (dat X.K (litD p.2.2))) }
  let ιe := { p : Rho × Rho × PyData // ∀ (s : Shared) (H : Hp) (C : Addr) (cl : List (Str × Addr)) (fp : List Addr), PE (X.blk s H scope (compEnvC scope cl C X.env) fp) vx (tE p.1 p.2.1 (dat X.K p.2.2)) }
  refine ⟨fun σ H Q => ∃ p : ιt, tT p.1.1 p.1.1 p.1.2 σ H Q, fun σ H Q => ∃ p : ιk, tE p.1.1 p.1.2.1 (dat X.K (litD p.1.2.2)) σ H Q, fun σ H Q => ∃ p : ιe, tE p.1.1 p.1.2.1 (dat X.K p.1.2.2) σ H Q, fun s H C cl fp => PTs.any fun p => p.2 s H C cl fp, fun s H C cl fp => PE.any fun p => p.2 s H C cl fp, fun s H C cl fp => PE.any fun p => p.2 s H C cl fp, ?_⟩
  rintro σ H Q ⟨F, B, e, q⟩
  refine ⟨F, B, e, fun J H1 B1 s1 e1 wk D o0 hD hl0 => ?_⟩
  have hF : F D = none := e1.noF hD
  refine ⟨fun i n H' => ∃ B' o kv, Same B1 B' ∧ Evn (upd F D o) B' H' σ (ρs i) ∧ LAt X.prog X.w X.K B' H' D kv ∧ DV X.K B' kv (accL keep ky el i) ∧ i + n = items.length, ⟨items.length, B1, o0, [], Same.refl _, (e1.less L.sub).keepNew hD, hl0 _, .nil, Nat.zero_add _⟩, ?_⟩
  rintro i n H2 ⟨B2, o, kv, s2, e2, hl, hdv, hn⟩
  have hDat : H2 D = some o := e2.sp.frm D _ upd_same
  by_cases hlt : i < items.length
  · have hr : items[i]? = some items[i] := List.getElem?_eq_getElem hlt
    obtain ⟨hgo, hy⟩ := wk.go i _ B2 H2 hr s2 e2.sp.bas
    refine .inr ⟨hgo, fun H' => ∃ B' o kv, Same B1 B' ∧ Evn (upd F D o) B' H' σ (ρs (i + 1)) ∧ LAt X.prog X.w X.K B' H' D kv ∧ DV X.K B' kv (accL keep ky el (i + 1)) ∧ (i + 1) + (n - 1) = items.length, fun H' hN => ⟨n - 1, by omega, hN⟩, fun x H3 hx => ?_⟩
    obtain ⟨B3, g3, hx⟩ := hy x H3 hx
    have e3 := (e2.grow g3).wiped (L.noat i)
    refine (L.tg i _ hr).run _ B3 H3 (wipe σ (own.map (·.2))) x _ e3 hx ?_
    intro τ' e4 hout hlen
    refine ⟨wipe_eq hout hlen, ?_⟩
    refine ⟨⟨(ρb i, keep i), L.test i hlt⟩, _, B3, e4, fun H5 B5 s5 e5 => ?_⟩
    show if keep i = true then _ else _
    cases hk : keep i with
    | true =>
      obtain ⟨ρk, ρ', hsub, hpk, hpe⟩ := L.elem i hlt hk
      refine iteT ⟨⟨(ρb i, ρk, ky i), hpk⟩, _, B5, e5, fun v H6 B6 s6 e6 hv => ⟨⟨(ρk, ρ', el i), hpe⟩, _, B6, e6, fun z H7 B7 s7 e7 hz => ?_⟩⟩
      have hD7 : H7 D = some o := e7.sp.frm D _ upd_same
      obtain ⟨b, rfl, hb⟩ := dp_lit hv
      have ss : Same B2 B7 := ((g3.bup.trans s5).trans s6).trans s7
      have hlen' : kv.length ≤ i := by
        rw [dv_len hdv]
        exact accL_len _ _ _ _
      refine ⟨B7, kv, ky i, b, e7.sp.bas, rfl, same_t s7 hb, hl.mono ss (by rw [hD7, hDat]), by have := L.few; rw [sizeLine_eq]; omega, fun o' ho' => ⟨B7, o', putK kv (ky i) z, s2.trans ss, ?_, ho', ?_, by omega⟩⟩
      · exact ((e7.less hsub).unwiped (L.noat (i + 1)) hout hlen).keepMut
      · show DV X.K B7 _ (if keep i = true then putD (accL keep ky el i) (ky i) (el i) else accL keep ky el i)
        rw [hk]
        exact (hdv.mono ss).put (ky i) hz
    | false =>
      have hD5 : H5 D = some o := e5.sp.frm D _ upd_same
      have ss : Same B2 B5 := g3.bup.trans s5
      refine iteF ⟨B5, o, kv, s2.trans ss, ?_, hl.mono ss (by rw [hD5, hDat]), ?_, by omega⟩
      · exact (e5.less (L.skip i hlt hk)).unwiped (L.noat (i + 1)) hout hlen
      · show DV X.K B5 kv (if keep i = true then putD (accL keep ky el i) (ky i) (el i) else accL keep ky el i)
        rw [hk]
        exact hdv.mono ss
  · have hi : i = items.length := by omega
    subst hi
    refine .inl ⟨wk.stop B2 H2 s2 e2.sp.bas, ?_⟩
    obtain ⟨e3, f⟩ := e2.keepDrop (c := ldO X.prog X.w X.K (accL keep ky el items.length)) hF ⟨kv, hl, hdv⟩
    exact q D H2 B2 (s1.trans s2) e3 f
theorem n_dl {ρs ρb : Nat → Rho} {keep : Nat → Bool} {ky : Nat → Lt} {el : Nat → PyData} (L : DlOk X kx vx tg iter ifs scope own ρ ρ0 items g ρs ρb keep ky el) (hu : X.A.units < cLine) (hN : X.N.Nodup := by assumption) (hc : X.calm = true := by rfl) (hs : ∀ x, foldedSetIterable iter X.env x = pure x := by intro _; rfl) :
    PE X (.DictComp kx vx [⟨tg, iter, ifs, 0⟩] scope pos) (tN ρ (ρs items.length) (ldO X.prog X.w X.K (accL keep ky el items.length))) := by
  obtain ⟨tt, tk, te, h1, h2, h3, h4⟩ := dl_run L
  exact PE.weak (pe_dl hc hu hN L.iter L.blk L.tgt h1 h2 h3 hs) h4
/-- y = {..}: owned -/
theorem s_dl (i : Nat) {ρs ρb : Nat → Rho} {keep : Nat → Bool} {ky : Nat → Lt} {el : Nat → PyData} (L : DlOk X kx vx tg iter ifs scope own ρ ρ0 items g ρs ρb keep ky el) (hu : X.A.units < cLine) (hN : X.N.Nodup := by assumption) (hc : X.calm = true := by rfl) (hy : X.N[i]? = some y := by rfl) (hyl : X.env.scope.names.lookup y = some .local := by rfl)
    (hsw : swapsWith (.DictComp kx vx [⟨tg, iter, ifs, 0⟩] scope pos) (some (.Name y py)) spos.line X.env = pure true := by exact sw_dict rfl rfl rfl (by decide +kernel)) (hs : ∀ x, foldedSetIterable iter X.env x = pure x := by intro _; rfl) :
    PS X (.Assign [.Name y py] (.DictComp kx vx [⟨tg, iter, ifs, 0⟩] scope pos) spos) (tS ρ (.nx ((ρs items.length).set i (.own (ldO X.prog X.w X.K (accL keep ky el items.length)))))) := by
  obtain ⟨tt, tk, te, h1, h2, h3, h4⟩ := dl_run L
  refine PS.weak (ps_setDl hc hu hN hy hyl hsw L.iter L.blk L.tgt h1 h2 h3 hs) fun D σ H ⟨F, B, e, q⟩ => ?_
  exact h4 σ H _ ⟨F, B, e, fun a H1 B1 s1 e1 f => q _ H1 B1 s1 (e1.hold f)⟩
end
end Fc
/-! FcR: a, b = x, y where new things are owned. -/
namespace Fc
open PySem PySem.W PySem.Spec PyProof.Rows L2
section
variable {F B H : Hp} {σ : L2.St} {ρ : Rho} {a : Addr} {c : Ow}
theorem Evn.keepFresh {o : HO} (e : Evn F B H σ ρ) (f : Fresh F B H σ ρ a c) (ho : H a = some o) : Evn (upd F a o) B H σ ρ where
  sp := ⟨e.sp.bas, fun b u h => by
    by_cases hb : b = a
    · subst hb
      rw [upd_same] at h
      rw [← h]; exact ho
    · rw [upd_ne hb] at h
      exact e.sp.frm b u h, fun b u h => by
    by_cases hb : b = a
    · subst hb; exact f.nb
    · rw [upd_ne hb] at h
      exact e.sp.dis b u h⟩
  len := e.len
  per := e.per
  own := fun i d hi => by
    obtain ⟨b, h1, h2, h3, h4⟩ := e.own i d hi
    refine ⟨b, h1, h2, ?_, h4⟩
    rw [upd_ne fun z => f.no i d hi (by rw [h1, z])]
    exact h3
  sep := e.sep
theorem per_ne (r : Rp) : ∀ d, Sl.per r ≠ .own d := fun _ h => by cases h
theorem Fresh.setPer {i : Nat} {x : Option V} {s : Sl} (f : Fresh F B H σ ρ a c) (hs : ∀ d, s ≠ .own d) : Fresh F B H (σ.set i x) (ρ.set i s) a c where
  nb := f.nb
  nf := f.nf
  at_ := f.at_
  no := fun j d hj => by
    rcases set_get hj with ⟨rfl, e1, _⟩ | ⟨hn, hj⟩
    · exact absurd e1.symm (hs d)
    · rw [List.getElem?_set_ne hn]
      exact f.no j d hj
theorem Fresh.setOwn {i : Nat} {b : Addr} {c' : Ow} (f : Fresh F B H σ ρ a c) (hn : a ≠ b) : Fresh F B H (σ.set i (some (.ref b))) (ρ.set i (.own c')) a c where
  nb := f.nb
  nf := f.nf
  at_ := f.at_
  no := fun j d hj hs => by
    rcases set_get hs with ⟨rfl, e1, _⟩ | ⟨hne, hs⟩
    · injection e1 with e1
      injection e1 with e1
      exact hn e1
    · rw [List.getElem?_set_ne hne] at hj
      exact f.no j d hj hs
end
section
variable {X : Cx} {x y z : Str} {a b e : Expr} {px py pz pt pos : Pos} {kt k2 pt2} {ρ ρ1 ρ2 ρ3 : Rho} {r r' : Rp} {c c' : Ow}
/-- x, y = a new thing, a value -/
theorem s_parOP (i j : Nat) (ha : PE X a (tN ρ ρ1 c)) (hb : PE X b (tE ρ1 ρ2 r)) (hN : X.N.Nodup := by assumption) (hc : X.calm = true := by rfl) (hi : X.N[i]? = some x := by rfl) (hj : X.N[j]? = some y := by rfl) (hij : i ≠ j := by decide) (hx : X.env.scope.names.lookup x = some .local := by rfl) (hy : X.env.scope.names.lookup y = some .local := by rfl)
    (hw : swappedStores [.Tuple [.Name x px, .Name y py] kt pt] (.Tuple [a, b] k2 pt2) X.env = pure (some [x, y]) := by rfl) (hs : swapsWithSole [.Tuple [.Name x px, .Name y py] kt pt] (.Tuple [a, b] k2 pt2) pos.line X.env = pure false := by rfl)
    (hs1 : starEach [a, b] X.env = (false, eval a X.env) :: starEach [b] X.env := by rfl) (hs2 : starEach [b] X.env = (false, eval b X.env) :: starEach [] X.env := by rfl) :
    PS X (.Assign [.Tuple [.Name x px, .Name y py] kt pt] (.Tuple [a, b] k2 pt2) pos) (tS ρ (.nx ((ρ2.set i (.own c)).set j (.per r)))) :=
  PS.weak (ps_par hc hN hi hj hij hx hy (pa_cons ha (pa_cons hb pa_nil hs2) hs1) hw hs) fun D σ H ⟨F, B, e0, q⟩ => ⟨F, B, e0, fun v H1 B1 s1 e1 f => by
    obtain ⟨o, ho⟩ := ne_some (c.there f.at_)
    refine ⟨upd F v o, B1, e1.keepFresh f ho, fun w H2 B2 s2 e2 hw => ⟨_, _, rfl, ?_⟩⟩
    have h2 : H2 v = some o := e2.sp.frm v o upd_same
    obtain ⟨e3, f3⟩ := e2.keepDrop (c := c) f.nf (c.mono s2 (h2.trans ho.symm) f.at_)
    exact q _ H2 B2 (s1.trans s2) ((e3.hold f3).set hw)⟩
/-- x, y = two new things -/
theorem s_parOO (i j : Nat) (ha : PE X a (tN ρ ρ1 c)) (hb : PE X b (tN ρ1 ρ2 c')) (hN : X.N.Nodup := by assumption) (hc : X.calm = true := by rfl) (hi : X.N[i]? = some x := by rfl) (hj : X.N[j]? = some y := by rfl) (hij : i ≠ j := by decide) (hx : X.env.scope.names.lookup x = some .local := by rfl) (hy : X.env.scope.names.lookup y = some .local := by rfl)
    (hw : swappedStores [.Tuple [.Name x px, .Name y py] kt pt] (.Tuple [a, b] k2 pt2) X.env = pure (some [x, y]) := by rfl) (hs : swapsWithSole [.Tuple [.Name x px, .Name y py] kt pt] (.Tuple [a, b] k2 pt2) pos.line X.env = pure false := by rfl)
    (hs1 : starEach [a, b] X.env = (false, eval a X.env) :: starEach [b] X.env := by rfl) (hs2 : starEach [b] X.env = (false, eval b X.env) :: starEach [] X.env := by rfl) :
    PS X (.Assign [.Tuple [.Name x px, .Name y py] kt pt] (.Tuple [a, b] k2 pt2) pos) (tS ρ (.nx ((ρ2.set i (.own c)).set j (.own c')))) :=
  PS.weak (ps_par hc hN hi hj hij hx hy (pa_cons ha (pa_cons hb pa_nil hs2) hs1) hw hs) fun D σ H ⟨F, B, e0, q⟩ => ⟨F, B, e0, fun v H1 B1 s1 e1 f => by
    obtain ⟨o, ho⟩ := ne_some (c.there f.at_)
    refine ⟨upd F v o, B1, e1.keepFresh f ho, fun w H2 B2 s2 e2 f2 => ⟨_, _, rfl, ?_⟩⟩
    have h2 : H2 v = some o := e2.sp.frm v o upd_same
    have hne : w ≠ v := fun z => by
      have := f2.nf
      rw [z, upd_same] at this
      cases this
    obtain ⟨e3, f3⟩ := e2.keepDrop (c := c) f.nf (c.mono s2 (h2.trans ho.symm) f.at_)
    have f4 : Fresh F B2 H2 σ ρ2 w c' := ⟨f2.nb, by have := f2.nf; rw [upd_ne hne] at this; exact this, f2.no, f2.at_⟩
    exact q _ H2 B2 (s1.trans s2) ((e3.hold f3).hold (f4.setOwn hne))⟩
/-- x, y, z = two values, a new thing -/
theorem s_par3 (i j l : Nat) (ha : PE X a (tE ρ ρ1 r)) (hb : PE X b (tE ρ1 ρ2 r')) (he : PE X e (tN ρ2 ρ3 c)) (hN : X.N.Nodup := by assumption) (hc : X.calm = true := by rfl) (hi : X.N[i]? = some x := by rfl) (hj : X.N[j]? = some y := by rfl) (hl : X.N[l]? = some z := by rfl) (hij : i ≠ j := by decide) (hil : i ≠ l := by decide) (hjl : j ≠ l := by decide)
    (hx : X.env.scope.names.lookup x = some .local := by rfl) (hy : X.env.scope.names.lookup y = some .local := by rfl) (hz : X.env.scope.names.lookup z = some .local := by rfl)
    (hw : swappedStores [.Tuple [.Name x px, .Name y py, .Name z pz] kt pt] (.Tuple [a, b, e] k2 pt2) X.env = pure (some [x, y, z]) := by rfl) (hs : swapsWithSole [.Tuple [.Name x px, .Name y py, .Name z pz] kt pt] (.Tuple [a, b, e] k2 pt2) pos.line X.env = pure false := by rfl)
    (hs1 : starEach [a, b, e] X.env = (false, eval a X.env) :: starEach [b, e] X.env := by rfl) (hs2 : starEach [b, e] X.env = (false, eval b X.env) :: starEach [e] X.env := by rfl) (hs3 : starEach [e] X.env = (false, eval e X.env) :: starEach [] X.env := by rfl) :
    PS X (.Assign [.Tuple [.Name x px, .Name y py, .Name z pz] kt pt] (.Tuple [a, b, e] k2 pt2) pos) (tS ρ (.nx (((ρ3.set i (.per r)).set j (.per r')).set l (.own c)))) :=
  PS.weak (ps_par3 hc hN hi hj hl hij hil hjl hx hy hz (pa_cons ha (pa_cons hb (pa_cons he pa_nil hs3) hs2) hs1) hw hs) fun D σ H ⟨F, B, e0, q⟩ => ⟨F, B, e0, fun v H1 B1 s1 e1 hv => ⟨F, B1, e1, fun w H2 B2 s2 e2 hw => ⟨F, B2, e2, fun u H3 B3 s3 e3 f => ⟨_, _, _, rfl, by
    have h1 := (e3.set (i := i) (r.mono (s2.trans s3) hv)).set (i := j) (r'.mono s3 hw)
    exact q _ H3 B3 ((s1.trans s2).trans s3) (h1.hold ((f.setPer (per_ne _)).setPer (per_ne _)))⟩⟩⟩⟩
end

/-! ### dicts whose keys are texts -/
section
variable (K : PySem.W.Frag)
abbrev TKv := List (Key × PyData)
def kdO (kvs : TKv) : Ow where
  p := fun a B H => ∃ kv, H a = some (.dK kv) ∧ DV K B kv kvs
  there := fun ⟨_, h, _⟩ => some_ne h
  mono := fun s e ⟨kv, h, r⟩ => ⟨kv, by rw [e]; exact h, r.mono s⟩
def kdR (kvs : TKv) : Rp := ⟨fun v B => ∃ a kv, v = .ref a ∧ B a = some (.dK kv) ∧ DV K B kv kvs, fun s ⟨a, kv, e, h, r⟩ => ⟨a, kv, e, s _ _ h, r.mono s⟩⟩
theorem sh_kd {kvs : TKv} : Shares (kdO K kvs) (kdR K kvs) := fun a B H hb ⟨kv, h1, h2⟩ => ⟨.dK kv, h1, a, kv, rfl, upd_same, h2.mono (same_new hb)⟩
end
def rKdIn : R2 := fun x y H Q => ∃ a o, y = .ref a ∧ DGet H a x o ∧ Q (.bl o.isSome) H
def rKdGet : R2 := fun x y H Q => ∃ a v, x = .ref a ∧ DGet H a y (some v) ∧ Q v H
def tKdSet : TSet := fun o k v H Q => ∃ a H', o = .ref a ∧ DPut H a k v H' ∧ Q H'
section
variable {X : Cx}
theorem op_kdIn (hu : X.A.units + 1 < cLine) : OpR X (compareOp .In) rKdIn := by
  intro pins s σ H x y v u Q I rx ry ⟨a, o, e, g, q⟩
  subst e
  obtain rfl : u = Value.ref a := ry
  exact d_in hu I g rx fun s' I' => ⟨.bl o.isSome, H, I', rfl, q⟩
theorem ix_kd (hu : X.A.units + 1 < cLine) : IxR X rKdGet := by
  intro value slice pins s σ H x y v u Q I rx ry ⟨a, z, e, g, q⟩ hs
  subst e
  obtain rfl : v = Value.ref a := rx
  exact tail_any (dict_typeIs I g) PySem.F.slot_dict_getitem.lookup (d_getItem hu I g ry fun w' s' I' r' => ⟨z, H, I', r', q⟩) hs
theorem ps_kd (hu : X.A.units + 1 < cLine) : PSet X tKdSet := by
  intro pins s σ H o i v ov iv u Q I ro ri rv ⟨a, H', e, g, q⟩
  subst e
  obtain rfl : ov = Value.ref a := ro
  exact d_setItem hu I g ri rv fun s' I' => ⟨H', I', q⟩
end
section
variable {K : PySem.W.Frag} {kvs : TKv} {x : Str} {d : PyData}
theorem opdR_kdIn {k : Bool} (h : (valD kvs (.inr x)).isSome = k) : OpdR rKdIn (dat K (.str x)) (kdO K kvs) (dat K (.bool k)) := fun B H y a Q s hy ⟨kv, hx, dv⟩ q => by
  rw [dp_str hy]
  refine ⟨a, valV kv (.inr x), rfl, DGet.k (k := .inr x) hx, ?_⟩
  rw [dv.isSome, h]
  exact q _ B H (Grow.refl s) (Dp.bl _)
theorem opd_kdGet (h : valD kvs (.inr x) = some d) : Opd rKdGet (kdR K kvs) (dat K (.str x)) (dat K d) := fun B H y z Q s ⟨a, kv, e, hx, dv⟩ hz q => by
  rw [dp_str hz]
  obtain ⟨v, hv, hd⟩ := dv.some h
  exact ⟨a, v, e, by rw [← hv]; exact DGet.k (k := .inr x) (s _ _ hx), q v B H (Grow.refl s) hd⟩
theorem opdP_kd (hz : kvs.length < 1000000) : OpdP tKdSet (kdO K kvs) (dat K (.str x)) (dat K d) (kdO K (putD kvs (.inr x) d)) := fun B H a k v Q s ⟨kv, hx, dv⟩ hk hv q => by
  rw [dp_str hk]
  exact ⟨a, _, rfl, DPut.k (k := .inr x) hx (by rw [dv_len dv, sizeLine_eq]; omega), q _ ⟨_, upd_same, dv.put _ hv⟩⟩
end
section
variable {X : Cx} {ρ ρ1 : Rho} {pos : Pos}
theorem n_kd0 : PE X (.Dict [] [] pos) (tN ρ ρ (kdO X.K [])) :=
  PE.weak pe_dnewK fun σ H Q ⟨F, B, e, q⟩ p hp => by
    obtain ⟨e2, f⟩ := e.fresh (c := kdO X.K []) (o := .dK []) hp ⟨[], upd_same, .nil⟩
    exact q p _ B (Same.refl B) e2 f
/-- what is made of the first i items -/
def accK (keep : Nat → Bool) (ky : Nat → Str) (el : Nat → PyData) : Nat → TKv
  | 0 => []
  | i + 1 => if keep i then putD (accK keep ky el i) (.inr (ky i)) (el i) else accK keep ky el i
theorem accK_len (keep : Nat → Bool) (ky : Nat → Str) (el : Nat → PyData) : ∀ i, (accK keep ky el i).length ≤ i
  | 0 => Nat.le_refl _
  | i + 1 => by
    unfold accK
    have := accK_len keep ky el i
    have h2 := putD_len (accK keep ky el i) (.inr (ky i)) (el i)
    split <;> omega
variable {kx vx tg iter : Expr} {ifs : List Expr} {scope : Scope} {own : List (Str × Nat)} {spos py : Pos} {ρ0 : Rho} {items : List Rp} {g : TG} {y : Str}
structure DkOk (X : Cx) (kx vx tg iter : Expr) (ifs : List Expr) (scope : Scope) (own : List (Str × Nat)) (ρ ρ0 : Rho) (items : List Rp) (g : TG) (ρs ρb : Nat → Rho) (keep : Nat → Bool) (ky : Nat → Str) (el : Nat → PyData) : Prop where
  iter : PI X tg iter (iD ρ ρ0 items)
  blk : BlkOk X.N X.env.scope scope own
  tgt : ∀ (s : Shared) (H : Hp) (C : Addr) (cl : List (Str × Addr)) (fp : List Addr), PG (X.blk s H scope (compEnvC scope cl C X.env) fp) tg g
  sub : Sub ρ0 (ρs 0)
  noat : ∀ i, NoAt (ρs i) (own.map (·.2))
  tg : ∀ (i : Nat) r, items[i]? = some r → Tg g (own.map (·.2)) (ρs i) r (ρb i)
  test : ∀ (i : Nat), i < items.length → ∀ (s : Shared) (H : Hp) (C : Addr) (cl : List (Str × Addr)) (fp : List Addr), PTs (X.blk s H scope (compEnvC scope cl C X.env) fp) ifs (tT (ρb i) (ρb i) (keep i))
  elem : ∀ (i : Nat), i < items.length → keep i = true → ∃ ρk ρ', Sub ρ' (ρs (i + 1)) ∧ (∀ (s : Shared) (H : Hp) (C : Addr) (cl : List (Str × Addr)) (fp : List Addr), PE (X.blk s H scope (compEnvC scope cl C X.env) fp) kx (tE (ρb i) ρk (dat X.K (.str (ky i))))) ∧
    ∀ (s : Shared) (H : Hp) (C : Addr) (cl : List (Str × Addr)) (fp : List Addr), PE (X.blk s H scope (compEnvC scope cl C X.env) fp) vx (tE ρk ρ' (dat X.K (el i)))
  skip : ∀ (i : Nat), i < items.length → keep i = false → Sub (ρb i) (ρs (i + 1))
  few : items.length ≤ 1000000
theorem n_dk {ρs ρb : Nat → Rho} {keep : Nat → Bool} {ky : Nat → Str} {el : Nat → PyData} (L : DkOk X kx vx tg iter ifs scope own ρ ρ0 items g ρs ρb keep ky el) (hN : X.N.Nodup := by assumption) (hc : X.calm = true := by rfl) (hs : ∀ x, foldedSetIterable iter X.env x = pure x := by intro _; rfl) :
    PE X (.DictComp kx vx [⟨tg, iter, ifs, 0⟩] scope pos) (tN ρ (ρs items.length) (kdO X.K (accK keep ky el items.length))) := by
  let ιt := { p : Rho × Bool // ∀ (s : Shared) (H : Hp) (C : Addr) (cl : List (Str × Addr)) (fp : List Addr), PTs (X.blk s H scope (compEnvC scope cl C X.env) fp) ifs (tT p.1 p.1 p.2) }
  let ιk := { p : Rho × Rho × Str // ∀ (s : Shared) (H : Hp) (C : Addr) (cl : List (Str × Addr)) (fp : List Addr), PE (X.blk s H scope (compEnvC scope cl C X.env) fp) kx (tE p.1 p.2.1 (dat X.K (.str p.2.2))) }
  let ιe := { p : Rho × Rho × PyData // ∀ (s : Shared) (H : Hp) (C : Addr) (cl : List (Str × Addr)) (fp : List Addr), PE (X.blk s H scope (compEnvC scope cl C X.env) fp) vx (tE p.1 p.2.1 (dat X.K p.2.2)) }
  refine PE.weak (pe_dc (tt := fun σ H Q => ∃ p : ιt, tT p.1.1 p.1.1 p.1.2 σ H Q) (tk := fun σ H Q => ∃ p : ιk, tE p.1.1 p.1.2.1 (dat X.K (.str p.1.2.2)) σ H Q) (tv := fun σ H Q => ∃ p : ιe, tE p.1.1 p.1.2.1 (dat X.K p.1.2.2) σ H Q) hc hN L.iter L.blk L.tgt (fun s H C cl fp => PTs.any fun p => p.2 s H C cl fp) (fun s H C cl fp => PE.any fun p => p.2 s H C cl fp) (fun s H C cl fp => PE.any fun p => p.2 s H C cl fp) hs) ?_
  rintro σ H Q ⟨F, B, e, q⟩
  refine ⟨F, B, e, fun J H1 B1 s1 e1 wk D hD => ?_⟩
  have hF : F D = none := e1.noF hD
  refine ⟨fun i n H' => ∃ B' kv, Same B1 B' ∧ Evn (upd F D (.dK kv)) B' H' σ (ρs i) ∧ DV X.K B' kv (accK keep ky el i) ∧ i + n = items.length, ⟨items.length, B1, [], Same.refl _, (e1.less L.sub).keepNew hD, .nil, Nat.zero_add _⟩, ?_⟩
  rintro i n H2 ⟨B2, kv, s2, e2, hdv, hn⟩
  have hDat : H2 D = some (.dK kv) := e2.sp.frm D _ upd_same
  by_cases hlt : i < items.length
  · have hr : items[i]? = some items[i] := List.getElem?_eq_getElem hlt
    obtain ⟨hgo, hy⟩ := wk.go i _ B2 H2 hr s2 e2.sp.bas
    refine .inr ⟨hgo, fun H' => ∃ B' kv, Same B1 B' ∧ Evn (upd F D (.dK kv)) B' H' σ (ρs (i + 1)) ∧ DV X.K B' kv (accK keep ky el (i + 1)) ∧ (i + 1) + (n - 1) = items.length, fun H' hN => ⟨n - 1, by omega, hN⟩, fun x H3 hx => ?_⟩
    obtain ⟨B3, g3, hx⟩ := hy x H3 hx
    have e3 := (e2.grow g3).wiped (L.noat i)
    refine (L.tg i _ hr).run _ B3 H3 (wipe σ (own.map (·.2))) x _ e3 hx ?_
    intro τ' e4 hout hlen
    refine ⟨wipe_eq hout hlen, ?_⟩
    refine ⟨⟨(ρb i, keep i), L.test i hlt⟩, _, B3, e4, fun H5 B5 s5 e5 => ?_⟩
    show if keep i = true then _ else _
    cases hk : keep i with
    | true =>
      obtain ⟨ρk, ρ', hsub, hpk, hpe⟩ := L.elem i hlt hk
      refine iteT ⟨⟨(ρb i, ρk, ky i), hpk⟩, _, B5, e5, fun v H6 B6 s6 e6 hv => ⟨⟨(ρk, ρ', el i), hpe⟩, _, B6, e6, fun z H7 B7 s7 e7 hz => ?_⟩⟩
      have hD7 : H7 D = some (.dK kv) := e7.sp.frm D _ upd_same
      have ss : Same B2 B7 := ((g3.bup.trans s5).trans s6).trans s7
      have hlen' : kv.length ≤ i := by
        rw [dv_len hdv]
        exact accK_len _ _ _ _
      rw [dp_str hv]
      refine ⟨kv, .inr (ky i), rfl, hD7, by have := L.few; rw [sizeLine_eq]; omega, B7, putK kv (.inr (ky i)) z, s2.trans ss, ?_, ?_, by omega⟩
      · exact ((e7.less hsub).unwiped (L.noat (i + 1)) hout hlen).keepMut
      · show DV X.K B7 _ (if keep i = true then putD (accK keep ky el i) (.inr (ky i)) (el i) else accK keep ky el i)
        rw [hk]
        exact (hdv.mono ss).put _ hz
    | false =>
      have ss : Same B2 B5 := g3.bup.trans s5
      refine iteF ⟨B5, kv, s2.trans ss, ?_, ?_, by omega⟩
      · exact (e5.less (L.skip i hlt hk)).unwiped (L.noat (i + 1)) hout hlen
      · show DV X.K B5 kv (if keep i = true then putD (accK keep ky el i) (.inr (ky i)) (el i) else accK keep ky el i)
        rw [hk]
        exact hdv.mono ss
  · have hi : i = items.length := by omega
    subst hi
    refine .inl ⟨wk.stop B2 H2 s2 e2.sp.bas, ?_⟩
    obtain ⟨e3, f⟩ := e2.keepDrop (c := kdO X.K (accK keep ky el items.length)) hF ⟨kv, hDat, hdv⟩
    exact q D H2 B2 (s1.trans s2) e3 f
end
end Fc
/-! FcV: min, list(..), tuple(..), +, slices, enumerate, count, index. -/
namespace Fc
open PySem PySem.W PySem.Spec PyProof.Rows L2
section
variable {X : Cx} {pins : List (Addr × Obj)} {σ : L2.St} {H : Hp} {s : Shared}
/-! ### min -/
theorem reads_all {pins : List (Addr × Obj)} {σ : L2.St} {H T : Hp} {s : Shared} (I : Inv X pins σ H s) (sT : Same T H) : ∀ {ds : List PyData} {xs : List V} {us : List Value}, DpAll X.K T xs ds → Vals xs us → ∃ as, ReadsAll s.heap us ds as
  | _, _, _, .nil, .nil => ⟨_, .nil⟩
  | _, _, _, .cons h t, .cons r q => by
    obtain ⟨as, h1⟩ := reads_all I sT t q
    obtain ⟨bs, h2⟩ := Dp.reads I _ _ _ (dp_mono sT _ _ h) r
    exact ⟨_, .cons h2 h1⟩
/-- min(xs) of typed data -/
def rMinT (α : Type) [DecidableEq α] [DatumOrd α] (K : PySem.W.Frag) : List V → Hp → VK → Prop := fun vs H Q => ∃ T v a, ∃ as : List α, vs = [v] ∧ Same T H ∧ Dp K T v (.list ((a :: as).map Datum.toD)) ∧ ∀ u, Dp K T u (Datum.toD (minOf a as)) → Q u H
theorem cr_minT {α : Type} [DecidableEq α] [DatumOrd α] (hlow : Datum.depth α ≤ 16) (hc : X.calm = true) (hu : X.A.units + 64 < cLine) : CallR X (.builtin "min") (rMinT α X.K) := by
  intro pins s σ H xs us Q I r ⟨T, v, a, as, e, sT, hd, q⟩
  subst e
  obtain ⟨u, rfl, ru⟩ := vals1 r
  obtain ⟨l, vs, rfl, h1, h2⟩ := dp_list hd
  obtain rfl : u = Value.ref l := ru
  obtain ⟨its, r2, pl, hz⟩ := I.list (same_l sT h1)
  obtain ⟨bs, hr⟩ := reads_all I sT h2 r2
  refine min_list_datum (α := α) (x := a) (xs := as) (I.ok.hd hc) pl.isList ⟨bs, by simpa using hr⟩ (by omega) fun i w' h' tk hi ⟨cs, hw⟩ hk => ?_
  have hi' : its[i]? = some w' := by simpa using hi
  obtain ⟨z, hz1, hz2⟩ := pr_get r2 hi'
  obtain ⟨d, hd1, hd2⟩ := dps_getv h2 hz1
  have I2 : Inv X pins σ H { s with heap := h', toks := tk } := I.kept hk
  obtain ⟨ds, hr3⟩ := Dp.reads I2 _ _ _ (dp_mono sT _ _ hd2) hz2
  have : Datum.toD (minOf a as) = d := (Reads.unique hw _ _ hr3).1
  exact ⟨z, H, I2, hz2, q z (this ▸ hd2)⟩
end

section
variable {K : PySem.W.Frag}
theorem cld_min {α : Type} [DecidableEq α] [DatumOrd α] {a : α} {as : List α} : Cld (rMinT α K) [dat K (.list ((a :: as).map Datum.toD))] (dat K (Datum.toD (minOf a as))) := fun B H vs Q s hv q => by
  cases hv with
  | cons h1 t =>
    cases t
    exact ⟨B, _, a, as, rfl, s, h1, fun u hu => q u B H (Grow.refl s) hu⟩
/-! ### list(..), tuple(..) -/
theorem cldN_list {ds : List PyData} {r : Rp} (h : r = dat K (.list ds) ∨ r = dat K (.tuple ds)) : CldN (fun xs H Q => ∃ p ys, xs = [.ref p] ∧ (SqL K H p ys ∨ SqT K H p ys) ∧ ∀ l, H l = none → Q (.ref l) (upd H l (.lst ys))) [r] (lstO K ds) := fun B H vs Q s hv q => by
  cases hv with
  | cons h1 t =>
    cases t
    rcases h with rfl | rfl
    · obtain ⟨a, xs, rfl, h2, h3⟩ := dp_list h1
      exact ⟨a, xs, rfl, .inl (same_l s h2), fun l hl => q l _ hl ⟨xs, upd_same, h3⟩⟩
    · obtain ⟨a, xs, rfl, h2, h3⟩ := dp_tup h1
      exact ⟨a, xs, rfl, .inr (same_t s h2), fun l hl => q l _ hl ⟨xs, upd_same, h3⟩⟩
theorem cld_tuple {ds : List PyData} {r : Rp} (h : r = dat K (.list ds) ∨ r = dat K (.tuple ds)) : Cld (fun xs H Q => ∃ p ys, xs = [.ref p] ∧ ((SqL K H p ys ∧ ∀ l, H l = none → Q (.ref l) (upd H l (.tup ys))) ∨ (SqT K H p ys ∧ Q (.ref p) H))) [r] (dat K (.tuple ds)) := fun B H vs Q s hv q => by
  cases hv with
  | cons h1 t =>
    cases t
    rcases h with rfl | rfl
    · obtain ⟨a, xs, rfl, h2, h3⟩ := dp_list h1
      refine ⟨a, xs, rfl, .inl ⟨same_l s h2, fun l hl => ?_⟩⟩
      have g := Grow.laid (o := .tup xs) s hl
      exact q _ _ _ g (Dp.tup (.inl (.inl upd_same)) (dps_mono g.bup _ _ h3))
    · obtain ⟨a, xs, rfl, h2, h3⟩ := dp_tup h1
      exact ⟨a, xs, rfl, .inr ⟨same_t s h2, q _ B H (Grow.refl s) h1⟩⟩
/-! ### xs + ys -/
def rCatQ (K : PySem.W.Frag) : R2 := fun x y H Q => ∃ l b xs zs, x = .ref l ∧ y = .ref b ∧ SqL K H l xs ∧ SqL K H b zs ∧ xs.length + zs.length ≤ sizeLine ∧ ∀ p, H p = none → Q (.ref p) (upd H p (.lst (xs ++ zs)))
theorem op_catQ {X : Cx} : OpR X (binaryOp .Add) (rCatQ X.K) := by
  intro pins s σ H x y v u Q I rx ry ⟨l, b, xs, zs, e1, e2, hl, hb, hz, q⟩
  subst e1; subst e2
  obtain rfl : v = Value.ref l := rx
  obtain rfl : u = Value.ref b := ry
  obtain ⟨its, r, pl, _⟩ := I.list hl
  obtain ⟨its2, r2, pl2, _⟩ := I.list hb
  obtain ⟨⟨cls, dd, data, sl⟩, ho, hc, n, hd⟩ := pl.isList
  obtain ⟨⟨cls2, dd2, data2, sl2⟩, ho2, hc2, n2, hd2⟩ := pl2.isList
  simp only at hc hd hc2 hd2
  subst hc hd hc2 hd2
  have k1 : xs.length = its.length := r.length
  have k2 : zs.length = its2.length := r2.length
  refine concat_meets ⟨_, ho, rfl⟩ ⟨_, ho2, rfl⟩ noFill_list_add seq_list_add F.slot_list_add F.entry_list_add (F.args_list_add_2 _ _) (list_addW l b its.toArray its2.toArray n n2 dd dd2 sl sl2 (by simp; omega)) ⟨ho, ho2, ?_⟩
  have ea : its.toArray ++ its2.toArray = (its ++ its2).toArray := by simp
  rw [ea]
  exact ⟨.ref _, _, I.lnew (t' := s.toks) (r.append r2) (by rw [List.length_append]; omega), rfl, q _ I.fresh⟩
theorem opdN_cat {ds es : List PyData} (h : ds.length + es.length ≤ 1000000) : OpdN (rCatQ K) (dat K (.list ds)) (dat K (.list es)) (lstO K (ds ++ es)) := fun B H x y Q s hx hy q => by
  obtain ⟨a, xs, rfl, h2, h3⟩ := dp_list hx
  obtain ⟨b, ys, rfl, k2, k3⟩ := dp_list hy
  exact ⟨a, b, xs, ys, rfl, rfl, same_l s h2, same_l s k2, by rw [dps_len h3, dps_len k3, sizeLine_eq]; omega, fun p hp => q p _ hp ⟨_, upd_same, dps_app h3 k3⟩⟩
theorem opd_cat' {ds es : List PyData} (h : ds.length + es.length ≤ 1000000) : Opd (rCatQ K) (dat K (.list ds)) (dat K (.list es)) (dat K (.list (ds ++ es))) := fun B H x y Q s hx hy q => by
  obtain ⟨a, xs, rfl, h2, h3⟩ := dp_list hx
  obtain ⟨b, ys, rfl, k2, k3⟩ := dp_list hy
  refine ⟨a, b, xs, ys, rfl, rfl, same_l s h2, same_l s k2, by rw [dps_len h3, dps_len k3, sizeLine_eq]; omega, fun p hp => ?_⟩
  have g := Grow.laid (o := .lst (xs ++ ys)) s hp
  exact q _ _ _ g (Dp.lst (.inl (.inl upd_same)) (dps_mono g.bup _ _ (dps_app h3 k3)))
/-! ### x in a list of data -/
theorem opd_inD {d : PyData} {ds : List PyData} {b : Bool} (h1 : SeqAt.shaped d = true) (h2 : SeqAt.shaped (.list ds) = true) (h : (ds.any fun z => PyData.eqv z d) = b) : Opd (rInD K) (dat K d) (dat K (.list ds)) (dat K (.bool b)) := fun B H x y Q s hx hy q =>
  ⟨d, ds, dp_mono s _ _ hx, dp_mono s _ _ hy, h1, h2, by rw [h]; exact q _ B H (Grow.refl s) (Dp.bl _)⟩
theorem opd_notInD {d : PyData} {ds : List PyData} {b : Bool} (h1 : SeqAt.shaped d = true) (h2 : SeqAt.shaped (.list ds) = true) (h : (!ds.any fun z => PyData.eqv z d) = b) : Opd (rNotInD K) (dat K d) (dat K (.list ds)) (dat K (.bool b)) := fun B H x y Q s hx hy q =>
  ⟨d, ds, dp_mono s _ _ hx, dp_mono s _ _ hy, h1, h2, by rw [h]; exact q _ B H (Grow.refl s) (Dp.bl _)⟩
end
/-! ### t[lo:hi] -/
section
variable {X : Cx} {e : Expr} {p2 pos : Pos} {ρ ρ1 ρ2 : Rho} {ds : List PyData}
theorem cut_dps {K : PySem.W.Frag} {B : Hp} {xs : List V} {ds : List PyData} (h : DpAll K B xs ds) (lo hi : Option Int) : DpAll K B (cutV xs lo hi) ((ds.drop (HT.sIx ds.length 0 lo)).take (HT.sIx ds.length ds.length hi - HT.sIx ds.length 0 lo)) := by
  unfold cutV
  rw [dps_len h]
  exact dps_take _ (dps_drop _ h)
theorem cut_whole {α : Type} {xs : List α} {lo hi : Option Int} (h : HT.sIx xs.length 0 lo = 0 ∧ HT.sIx xs.length xs.length hi = xs.length) : (xs.drop (HT.sIx xs.length 0 lo)).take (HT.sIx xs.length xs.length hi - HT.sIx xs.length 0 lo) = xs := by
  rw [h.1, h.2, List.drop_zero, Nat.sub_zero, List.take_length]
/-- t[k:] -/
theorem d_slFrom {lo : Expr} {k : Int} {es : List PyData} (he : PE X e (tE ρ ρ1 (dat X.K (.tuple ds)))) (hl : PE X lo (tE ρ1 ρ2 (dat X.K (.int k)))) (h : (ds.drop (HT.sIx ds.length 0 (some k))).take (HT.sIx ds.length ds.length none - HT.sIx ds.length 0 (some k)) = es) : PE X (.Subscript e (.Slice (some lo) none none p2) pos) (tE ρ ρ2 (dat X.K (.tuple es))) :=
  PE.weak (pe_slice sl_tupA he (po_some hl) po_none) fun σ H Q ⟨F, B, e0, q⟩ => ⟨F, B, e0, fun v H1 B1 s1 e1 hv => ⟨F, B1, e1, fun u H2 B2 s2 e2 hu => by
    refine ⟨k, dp_int hu, ?_⟩
    obtain ⟨a, xs, rfl, h2, h3⟩ := dp_tup hv
    subst h
    refine ⟨a, xs, rfl, same_t (s2.trans e2.sp.bas) h2, fun hw => ?_, fun hw p hp => ?_⟩
    · rw [dps_len h3] at hw
      rw [cut_whole hw] at q
      exact q _ H2 B2 (s1.trans s2) e2 (dp_mono s2 _ _ hv)
    · have g := Grow.laid (o := .tup (cutV xs (some k) none)) e2.sp.bas hp
      exact q _ _ _ ((s1.trans s2).trans g.bup) (e2.grow g) (Dp.tup (.inl (.inl upd_same)) (dps_mono (s2.trans g.bup) _ _ (cut_dps h3 _ _)))⟩⟩
/-- t[:k] -/
theorem d_slTo {hi : Expr} {k : Int} {es : List PyData} (he : PE X e (tE ρ ρ1 (dat X.K (.tuple ds)))) (hl : PE X hi (tE ρ1 ρ2 (dat X.K (.int k)))) (h : (ds.drop (HT.sIx ds.length 0 none)).take (HT.sIx ds.length ds.length (some k) - HT.sIx ds.length 0 none) = es) : PE X (.Subscript e (.Slice none (some hi) none p2) pos) (tE ρ ρ2 (dat X.K (.tuple es))) :=
  PE.weak (pe_slice sl_tupA he po_none (po_some hl)) fun σ H Q ⟨F, B, e0, q⟩ => ⟨F, B, e0, fun v H1 B1 s1 e1 hv => ⟨F, B1, e1, fun u H2 B2 s2 e2 hu => by
    refine ⟨k, dp_int hu, ?_⟩
    obtain ⟨a, xs, rfl, h2, h3⟩ := dp_tup hv
    subst h
    refine ⟨a, xs, rfl, same_t (s2.trans e2.sp.bas) h2, fun hw => ?_, fun hw p hp => ?_⟩
    · rw [dps_len h3] at hw
      rw [cut_whole hw] at q
      exact q _ H2 B2 (s1.trans s2) e2 (dp_mono s2 _ _ hv)
    · have g := Grow.laid (o := .tup (cutV xs none (some k))) e2.sp.bas hp
      exact q _ _ _ ((s1.trans s2).trans g.bup) (e2.grow g) (Dp.tup (.inl (.inl upd_same)) (dps_mono (s2.trans g.bup) _ _ (cut_dps h3 _ _)))⟩⟩
end
end Fc
/-! FcW: enumerate(t), t a tuple. -/
namespace Fc
open PySem PySem.W PySem.Spec PyProof.Rows L2
theorem meets_enumT {v : Value} {o : Obj} {S : Heap → Prop} (B : Begins v o S) : Meets (Builtin.«enumerate.__new__» ⟨[.type "enumerate", v], []⟩) (fun _ R s => S s.heap ∧
      R (.ok (.ret (.ref (s.heap.push o).objs.size))) { s with heap := (s.heap.push o).push { cls := .type "enumerate", data := .fields #[.none, .bool false, .ref s.heap.objs.size, rawInt 0, .none, .none] } }) :=
  .of_wp fun prog w A R s h => by
    obtain ⟨hp, g, d, tk, os⟩ := s
    obtain ⟨h1, h⟩ := h
    have hsub := sub_enumerate
    have it0 : ∀ {A' : Around} {E : Value → Shared → Prop} {Q : Value → Shared → Prop}, Q (.ref hp.objs.size) ⟨hp.push o, g, d, tk, os⟩ → wpAny (model prog w) A' (pyIter v) Q E ⟨hp, g, d, tk, os⟩ := fun q => B.iter prog w _ _ ⟨hp, g, d, tk, os⟩ _ h1 q
    wp_walk using it0
    refine wpAny_stack_any fun st => wpAny_pure ?_
    split
    · rename_i c _ _ _ _ _
      cases (c == Value.type "enumerate") <;> (wp_walk using it0; exact ⟨_, rfl, h⟩)
    · wp_walk using it0
      exact ⟨_, rfl, h⟩
theorem call_enumT {prog : Program} {w : World} {A : Around} {E : Value → Shared → Prop} {s : Shared} {v : Value} {o : Obj} {S : Heap → Prop} {Q : Value → Shared → Prop} (B : Begins v o S) (h1 : S s.heap)
    (h : ∀ h', IsEnum h' (s.heap.objs.size + 1) s.heap.objs.size 0 .none → h'.get? s.heap.objs.size = some o → (∀ b o, s.heap.get? b = some o → h'.get? b = some o) → Q (.ref (s.heap.objs.size + 1)) { s with heap := h' }) :
    wpAny (model prog w) A (call (.type "enumerate") [v]) Q E s := by
  refine callType_new F.called_enumerate (by decide) (F.typeCall_enumerate_1 _) (F.newCall_enumerate_1 _) (fun obj => F.args_object_init_2 obj _) F.entry_enumerate_new (meets_enumT B) ⟨h1, ?_⟩
  have hz : (s.heap.push o).objs.size = s.heap.objs.size + 1 := Heap.size_push ..
  have he : IsEnum ((s.heap.push o).push { cls := .type "enumerate", data := .fields #[.none, .bool false, .ref s.heap.objs.size, rawInt 0, .none, .none] }) (s.heap.objs.size + 1) s.heap.objs.size 0 .none := by
    have q := Heap.get?_push_size (s.heap.push o) (o := { cls := .type "enumerate", data := .fields #[.none, .bool false, .ref s.heap.objs.size, rawInt 0, .none, .none] }) rfl
    rw [hz] at q
    exact q
  show _ ∧ _
  rw [hz]
  exact ⟨⟨_, he, rfl⟩, h _ he (Heap.get?_push_of_some _ (Heap.get?_push_size _ B.free)) fun b o x => Heap.get?_push_of_some _ (Heap.get?_push_of_some _ x)⟩
/-- the tuple at a, its items with their places in new pairs -/
def ItTe (K : PySem.W.Frag) (a : Addr) : It :=
  ⟨fun i H => ∃ (xs : List V) (x : V), SqT K H a xs ∧ xs[i]? = some x, fun i H v H' => ∃ T x, v = .ref T ∧ H T = none ∧ H' = upd H T (.tup [.int (i : Nat), x]) ∧ ∀ xs, SqT K H a xs → xs[i]? = some x, fun i H => ∃ xs : List V, SqT K H a xs ∧ xs.length ≤ i⟩
theorem vals_inj {xs ys : List V} {us : List Value} (h : Vals xs us) (k : Vals ys us) : xs = ys := by
  induction h generalizing ys with
  | nil => cases k; rfl
  | cons r t ih =>
    cases k with
    | cons r' t' => rw [ih t', RelV.inj r r']
theorem turn_te {P : Program} {w : World} {K : PySem.W.Frag} {elts : List Expr} {kk : Nat} {tpos : Pos} (a e it : Addr) (ha : a ≠ it) (hea : e ≠ a) : Turn P w K (.Tuple elts kk tpos) (ItTe K a) [e, it] e (fun i h => (∃ old, IsEnum h e it ((i : Nat) : Int) old) ∧ h.IsTupleIter it a i ∧ e ≠ it) where
  mem := by simp
  obj := fun i h st b hb => by
    obtain ⟨⟨old, he⟩, ⟨o, ho, hc, hd⟩, _⟩ := st
    have e' : b = e ∨ b = it := by simpa using hb
    rcases e' with z | z
    · rw [z]; exact ⟨_, he, fun v q => nomatch q⟩
    · rw [z]; exact ⟨o, ho, fun v q => by rw [hd] at q; cases q⟩
  keep := fun i h h' st k => let ⟨⟨old, he⟩, hi, hne⟩ := st; ⟨⟨old, k e (by simp) _ he⟩, hi.at fun o q => k it (by simp) o q, hne⟩
  item := by
    rintro X rfl rfl rfl hc i pins s σ H E I hf ⟨⟨old, he⟩, hit, hne⟩ ⟨xs, x, hq, hx⟩
    obtain ⟨its, rv, p, hz⟩ := I.tuple hq
    obtain ⟨u, hu, ru⟩ := rv.get hx
    have hel : e < s.heap.objs.size := Heap.lt_size he
    have hil : it < s.heap.objs.size := by obtain ⟨_, q, _⟩ := hit; exact Heap.lt_size q
    have hlt : i < its.toArray.size := by
      have := (List.getElem?_eq_some_iff.mp hu).1
      simpa using this
    refine wpAny_pyNext_enum_itemD (Draws.tuple (A := X.A.in1) (I.ok.hd hc) it a ha its.toArray) he ⟨hit, p⟩ hlt hne (by simp [hne, hea]) fun y h' tk hy ho ⟨hit', _⟩ hT hsz hk => ?_
    have hyu : y = u := by
      have : its[i]? = some y := by simpa using hy
      rw [hu] at this
      exact (Option.some.inj this).symm
    subst hyu
    refine ⟨_, rfl, wpAny_letOwnedTupleGo_enum (s := { s with heap := h', toks := tk + 1 }) ho fun h'' he' sb => ?_⟩
    have hT2 : h''.get? s.heap.objs.size = some { cls := .type "tuple", data := .seq #[.int i tk, y] } := (sb.2 _ (Nat.ne_of_gt hel)).trans hT
    have new : ObjOk X.prog X.w (upd H s.heap.objs.size (.tup [.int (i : Nat), x])) h'' s.heap.objs.size (.tup [.int (i : Nat), x]) :=
      ⟨by show 2 ≤ sizeLine; decide, [.int i tk, y], .cons ⟨_, rfl⟩ (.cons ru .nil), ⟨_, hT2, rfl, _, rfl⟩⟩
    have I1 : Inv X pins σ (upd H s.heap.objs.size (.tup [.int (i : Nat), x])) { s with heap := h'', toks := tk + 1 } :=
      I.turnedNew (ch := [e, it]) (fun b ob hb q => (sb.2 b (fun z => hb (by simp [z]))).trans (hk b ob (fun z => hb (by simp [z])) (fun z => hb (by simp [z])) q)) hf (Nat.le_refl _) new
    refine ⟨.ref s.heap.objs.size, _, I1, rfl, ⟨_, x, rfl, I.hok.fresh (Nat.le_refl _), rfl, fun ys hy => ?_⟩, ⟨⟨y, ?_⟩, hit'.at fun o q => (sb.2 it (Ne.symm hne)).trans q, hne⟩, fun b hb => ?_⟩
    · obtain ⟨its2, rv2, p2, _⟩ := I.tuple hy
      obtain ⟨o1, g1, _, n1, g2⟩ := p
      obtain ⟨o2, g3, _, n2, g4⟩ := p2
      rw [g1] at g3
      cases g3
      rw [g2] at g4
      injection g4 with g4
      have : its = its2 := by simpa using g4
      subst this
      rw [vals_inj rv2 rv]
      exact hx
    · have e1 : ((i + 1 : Nat) : Int) = (i : Int) + 1 := by omega
      rw [e1]; exact he'
    · have hb' : b < s.heap.objs.size := by
        have e' : b = e ∨ b = it := by simpa using hb
        rcases e' with z | z
        · rw [z]; exact hel
        · rw [z]; exact hil
      rw [upd_ne (Nat.ne_of_lt hb')]
      exact (hf b hb).1
  done := by
    rintro X rfl rfl rfl hc i pins s σ H E I hf ⟨⟨old, he⟩, hit, hne⟩ ⟨xs, hq, hx⟩
    obtain ⟨its, rv, p, hz⟩ := I.tuple hq
    obtain ⟨f0, f1, f2, f3, f4, f5⟩ := hf it (by simp)
    have hT : s.TypeIs (.ref e) "enumerate" := ⟨_, he, rfl⟩
    unfold pyNext
    refine wpAny_bind (wpAny_attempt (wpAny_callSpecial?_slot (name := Str.ofString "__next__") hT F.slot_enumerate_next (wpAny_call_entry F.slot_enumerate_next hT F.entry_enumerate_next ?_ (F.args_enumerate_next_1 _))))
    show wpAny _ _ (field (.ref e) 2 >>= _) _ _ _
    refine wpAny_bind (wpAny_field he rfl (x := .ref it) rfl ?_)
    refine wpAny_bind (wpAny_nextOf_tuple_end (A := X.A.in1) (I.ok.hd hc) hit p (by rw [← Array.getElem?_toList]; exact List.getElem?_eq_none (by have h1 : xs.length = its.length := rv.length; have h2 : xs.length ≤ i := hx; show its.length ≤ i; omega)) fun h' x eb hx' => ?_)
    obtain ⟨o, ho, hc'⟩ := hx'
    refine wpAny_bind (wpAny_isInstance (T := "StopIteration") (b := true) ⟨o, ho, hc'⟩ isSubtype_stop ?_)
    exact wpAny_pure ⟨rfl, I.turned (t' := s.toks) (fun b o hb q => eb b o hb q) f0 f1 f3 f4 f5⟩
  self := fun A i s Q E st h => let ⟨⟨_, he⟩, _⟩ := st; wpAny_pyIter_enum he h
section
variable {X : Cx} {ρ ρ1 : Rho} {e : Expr} {p pos tpos : Pos} {elts : List Expr} {kk : Nat}
def iEnumT (K : PySem.W.Frag) (ta : TA) : TI := fun σ H R => ta σ H fun vs H1 => ∃ a xs, vs = [.ref a] ∧ SqT K H1 a xs ∧ R (ItTe K a) H1
theorem pi_enumT {ta : TA} (hg : Gl X "enumerate") (hm : X.mg "enumerate" = none) (ha : PA X [e] ta) (hs : starEach [e] X.env = [(false, eval e X.env)] := by rfl) : PI X (.Tuple elts kk tpos) (.Call (.Name "enumerate" p) [e] [] pos) (iEnumT X.K ta) := by
  refine ⟨fun pins s σ H R I h => ?_⟩
  refine Call_ (ld_blt I hg hm boot_enumerate (PyProof.Rows.callWith_type1 (thn (ha.run pos pins s σ H _ I h) fun us s1 ⟨vs, H1, I1, r1, a, xs, ex, hq, q⟩ => ?_) hs rfl))
  subst ex
  obtain ⟨u, rfl, ru⟩ := vals1 r1
  obtain rfl : u = Value.ref a := ru
  obtain ⟨its, rv, p', hz⟩ := I1.tuple hq
  have hal : a < s1.heap.objs.size := by obtain ⟨o, g, _⟩ := p'; exact Heap.lt_size g
  have hne' : s1.heap.objs.size + 1 ≠ a := fun z => Nat.lt_irrefl _ (Nat.lt_trans (Nat.lt_succ_self _) (z ▸ hal : s1.heap.objs.size + 1 < s1.heap.objs.size))
  refine call_enumT (begins_tuple a its.toArray) p' fun h' he hit hk => wpAny_pyIter_enum he ?_
  have I2 : Inv X pins σ H1 { s1 with heap := h' } := I1.kept (t' := s1.toks) hk
  refine ⟨s1.heap.objs.size + 1, [s1.heap.objs.size + 1, s1.heap.objs.size], _, _, H1, rfl, I2, turn_te a (s1.heap.objs.size + 1) s1.heap.objs.size (Nat.ne_of_lt hal) hne', ⟨⟨.none, he⟩, ⟨_, hit, rfl, rfl⟩, Nat.succ_ne_self _⟩, fun b hb => ?_, q⟩
  have e' : b = s1.heap.objs.size + 1 ∨ b = s1.heap.objs.size := by simpa using hb
  have hle : s1.heap.objs.size ≤ b := by
    rcases e' with z | z
    · rw [z]; exact Nat.le_add_right _ _
    · rw [z]; exact Nat.le_refl _
  exact I1.fpOk hle (I1.hok.fresh hle)
/-- the items with their places -/
def enumR (K : PySem.W.Frag) (ds : List PyData) : List Rp := (List.range ds.length).map fun (i : Nat) => dat K (.tuple [.int (i : Int), ds.getD i .none])
theorem enumR_get {K : PySem.W.Frag} {ds : List PyData} {i : Nat} {r : Rp} (h : (enumR K ds)[i]? = some r) : ∃ d, ds[i]? = some d ∧ r = dat K (.tuple [.int (i : Int), d]) := by
  unfold enumR at h
  rw [List.getElem?_map] at h
  by_cases hi : i < ds.length
  · rw [List.getElem?_range hi] at h
    cases h
    exact ⟨ds[i], List.getElem?_eq_getElem hi, by simp [List.getD_eq_getElem?_getD, List.getElem?_eq_getElem hi]⟩
  · rw [List.getElem?_eq_none (by rw [List.length_range]; omega)] at h
    cases h
theorem enumR_len {K : PySem.W.Frag} {ds : List PyData} : (enumR K ds).length = ds.length := by simp [enumR]
theorem walk_te {K : PySem.W.Frag} {B : Hp} {a : Addr} {xs : List V} {ds : List PyData} (h1 : SqT K B a xs) (h2 : DpAll K B xs ds) : Walk (ItTe K a) B (enumR K ds) where
  go := fun i r B1 H1 h s1 s2 => by
    obtain ⟨d, hd, rfl⟩ := enumR_get h
    obtain ⟨v, hv, hr⟩ := dps_get h2 hd
    have q := same_t (s1.trans s2) h1
    refine ⟨⟨xs, v, q, hv⟩, fun x H2 ⟨T, y, e1, hn, e2, k⟩ => ?_⟩
    subst e1; subst e2
    have := k xs q
    rw [hv] at this
    cases this
    have g := Grow.laid (o := .tup [.int (i : Nat), v]) s2 hn
    exact ⟨_, g, Dp.tup (.inl (.inl upd_same)) (.cons (.int _) (.cons (dp_mono (s1.trans g.bup) _ _ hr) .nil))⟩
  stop := fun B1 H1 s1 s2 => ⟨xs, same_t (s1.trans s2) h1, by rw [enumR_len, dps_len h2]; exact Nat.le_refl _⟩
/-- for i, a in enumerate(t) -/
theorem i_enumT {ds : List PyData} (hm : X.mg "enumerate" = none) (ha : PE X e (tE ρ ρ1 (dat X.K (.tuple ds)))) (hg : Gl X "enumerate" := by rfl) (hs : starEach [e] X.env = [(false, eval e X.env)] := by rfl) : PI X (.Tuple elts kk tpos) (.Call (.Name "enumerate" p) [e] [] pos) (iD ρ ρ1 (enumR X.K ds)) :=
  PI.weak (pi_enumT hg hm (a_cons ha a_nil hs) hs) fun σ H R ⟨F, B, e0, q⟩ => ⟨F, B, e0, fun vs H1 B1 s1 e1 hv => by
    cases hv with
    | cons h1 t =>
      cases t
      obtain ⟨a, xs, rfl, h2, h3⟩ := dp_tup h1
      exact ⟨a, xs, rfl, same_t e1.sp.bas h2, q _ _ B1 s1 e1 (walk_te h2 h3)⟩⟩
end
end Fc
/-! FcX: {k: v}, d.get(k, x), list(d). -/
namespace Fc
open PySem PySem.W PySem.Spec PyProof.Rows L2
section
variable {X : Cx} {ρ ρ1 ρ2 : Rho} {pos : Pos} {k v : Expr} {l : Lt} {d : PyData}
/-- {k: v} -/
theorem n_ld1 (hu : X.A.units + 1 < cLine) (hk : PE X k (tE ρ ρ1 (dat X.K (litD l)))) (hv : PE X v (tE ρ1 ρ2 (dat X.K d))) : PE X (.Dict [some k] [v] pos) (tN ρ ρ2 (ldO X.prog X.w X.K [(l, d)])) := by
  refine ⟨fun pins s σ H Q I ⟨F, B, e, q⟩ => ?_⟩
  have hn : H s.heap.objs.size = none := I.hok.fresh (Nat.le_refl _)
  have hF : F s.heap.objs.size = none := e.noF hn
  have lo : (s.heap.objs.size == sysModules) = false := beq_eq_false_iff_ne.mpr (Ne.symm (Nat.ne_of_lt I.big))
  have I1 : Inv X pins σ (upd H s.heap.objs.size (ldX X.prog X.w s.heap.objs.size [] 0)) { s with heap := s.heap.push { cls := .type "dict", data := .dict #[] } } :=
    I.laid (t' := s.toks) (fun _ _ q => Heap.get?_push_of_some _ q) (Nat.le_refl _) ⟨⟨_, #[], Heap.get?_push_size _ rfl, ⟨rfl, rfl, rfl⟩, rfl, rfl⟩, ⟨_, Heap.get?_push_size _ rfl⟩, fun h1 h2 ⟨o, es, g1, g2⟩ k => ⟨o, es, k o g1, g2⟩⟩
  have e1 := e.keepNew (o := ldX X.prog X.w s.heap.objs.size [] 0) hn
  rw [arm_eval_Dict]
  refine wpAny_bind (wpAny_standAt ?_)
  rw [show (evalEachOpt [some k] X.env).zip ((evalEach [v] X.env).map fun v => do let x ← v; standAt pos; pure x) = (pairTrees [some k] [v] X.env pos).map fun p => (some p.1, p.2) from rfl]
  rw [dictDisplay_pairs _ (by intro z; cases z) (by show 1 < 17; decide)]
  refine wpAny_bind (wpAny_subDictH (knd := tupleKind (leafKind X.prog X.w)) (by show X.A.units < cLine; omega) (by show 1 ≤ 15; decide) ?_)
  let D := s.heap.objs.size
  let F' := upd F D (ldX X.prog X.w D [] 0)
  let Qv : V → VK := fun y z H2 => ∃ b B2, y = .ref b ∧ Same B B2 ∧ Evn F' B2 H2 σ ρ2 ∧ SqT X.K B2 b (litV l) ∧ Dp X.K B2 z d
  have hk1 : tE ρ ρ1 (dat X.K (litD l)) σ (upd H D (ldX X.prog X.w D [] 0)) fun y H1 => tE ρ1 ρ2 (dat X.K d) σ H1 (Qv y) := ⟨F', B, e1, fun y H1 B1 s1 e2 hy => ⟨F', B1, e2, fun z H2 B2 s2 e3 hz => by
    obtain ⟨b, rfl, hb⟩ := dp_lit hy
    exact ⟨b, B2, rfl, s1.trans s2, e3, same_t s2 hb, hz⟩⟩⟩
  refine pairTrees_cons_walk (thn (hk.run pins _ σ _ _ I1 hk1) fun ku s1 ⟨y, H1, I2, r1, q1⟩ => thn (hv.run pins s1 σ H1 _ I2 q1) fun vu s2 ⟨z, H2, I3, r2, b, B2, ey, sB, e3, hb, hz⟩ => pairTrees_nil_walk ?_)
  subst ey
  obtain rfl : ku = Value.ref b := r1
  have hD : H2 D = some (ldX X.prog X.w D [] 0) := e3.sp.frm D _ upd_same
  have dd := dict_of (kvs := []) I3 hD List.nodup_nil (.nil : KL X.K H2 [] [])
  refine ⟨[(lk l, b, vu)], ⟨rfl, rfl, lit_key I3 (same_t e3.sp.bas hb), trivial⟩, dd, fun h' tk dd' hs => wpAny_pure ?_⟩
  obtain ⟨o, es, ep', hq, h2, h3, h4, _, h5⟩ := dd'
  have h4' : es.toList = ([(l, b, vu)].map rawL).map (entryOfKey (tupleKind (leafKind X.prog X.w))) := h4
  have new : ObjOk X.prog X.w (upd H2 D (ldX X.prog X.w D [(l, b, vu)] ep')) h' D (ldX X.prog X.w D [(l, b, vu)] ep') := ⟨⟨o, es, hq, h2, h3, h4'⟩, ⟨o, hq⟩, fun h1 h2 ⟨o, es, e1, e2⟩ k => ⟨o, es, k _ e1, e2⟩⟩
  have I4 : Inv X pins σ (upd H2 D (ldX X.prog X.w D [(l, b, vu)] ep')) { s2 with heap := h', toks := tk } := d_write I3 (by rw [hD]; exact True.intro) hs ⟨o, hq⟩ new
  obtain ⟨e4, f⟩ := (e3.keepMut (o' := ldX X.prog X.w D [(l, b, vu)] ep')).keepDrop (c := ldO X.prog X.w X.K [(l, d)]) hF ⟨[(l, z)], ⟨lo, by rw [sizeLine_eq]; show 1 ≤ _; omega, [(l, b, vu)], ep', upd_same, List.nodup_cons.mpr ⟨by simp, List.nodup_nil⟩, .cons ⟨rfl, hb, r2⟩ .nil⟩, .cons ⟨rfl, hz⟩ .nil⟩
  exact ⟨.ref D, _, I4, rfl, q D _ B2 sB e4 f⟩
end
/-! ### d.get(k, x) -/
section
variable {X : Cx} {o k v : Expr} {apos cpos : Pos} {ρ ρ1 ρ2 ρ3 : Rho} {l : Lt} {d : PyData} {kvs : List (Lt × PyData)}
theorem d_ldGet2 (hu : X.A.units + 1 < cLine) (ho : PE X o (tE ρ ρ1 (ldR X.prog X.w X.K kvs))) (hk : PE X k (tE ρ1 ρ2 (dat X.K (litD l)))) (hv : PE X v (tE ρ2 ρ3 (dat X.K d))) (hbase : attributeBase o "get" X.env (eval o X.env) = eval o X.env := by rfl)
    (hfew : ((backTo cpos (starEach [k, v] X.env)).all (fun x => !x.1) && (backToKw cpos (keywordEach [] X.env)).all (fun x => x.1.isSome)
      && decide (([k, v] : List Expr).length + ([] : List Keyword).length + (if ([] : List Keyword).isEmpty then 0 else 1) < 30)) = true := by rfl)
    (hline : (apos.endLine == cpos.line) = true := by rfl) (htr : backTo cpos (starEach [k, v] X.env) = [(false, eval k X.env), (false, eval v X.env)] := by rfl) : PE X (.Call (.Attribute o "get" apos) [k, v] [] cpos) (tE ρ ρ3 (dat X.K ((valD kvs l).getD d))) := by
  refine ⟨fun pins s σ H Q I ⟨F, B, e, q⟩ => ?_⟩
  let Q3 : V → V → VK := fun x y z H3 => ∃ a b kv B3, x = .ref a ∧ y = .ref b ∧ Same B B3 ∧ Evn F B3 H3 σ ρ3 ∧ LAt X.prog X.w X.K B3 B3 a kv ∧ DV X.K B3 kv kvs ∧ SqT X.K B3 b (litV l) ∧ Dp X.K B3 z d
  have h1 : tE ρ ρ1 (ldR X.prog X.w X.K kvs) σ H fun x H1 => (∃ a kv, x = .ref a ∧ LAt X.prog X.w X.K H1 H1 a kv) ∧ tE ρ1 ρ2 (dat X.K (litD l)) σ H1 fun y H2 => tE ρ2 ρ3 (dat X.K d) σ H2 (Q3 x y) := ⟨F, B, e, fun x H1 B1 s1 e1 hx => by
    obtain ⟨a, kv, e2, hx, dv⟩ := hx
    refine ⟨⟨a, kv, e2, (at_base e1.sp.bas hx).mono e1.sp.bas rfl⟩, F, B1, e1, fun y H2 B2 s2 e3 hy => ⟨F, B2, e3, fun z H3 B3 s3 e4 hz => ?_⟩⟩
    obtain ⟨b, e5, hb⟩ := dp_lit hy
    exact ⟨a, b, kv, B3, e2, e5, (s1.trans s2).trans s3, e4, hx.up (s2.trans s3) (s2.trans s3), dv.mono (s2.trans s3), same_t s3 hb, hz⟩⟩
  refine wpAny_Call_method hbase hfew hline PySem.F.plainAttrs_dict PySem.F.slot_dict_get PySem.F.type_dict_get (thn (ho.run pins s σ H _ I h1) fun u s1 ⟨x, H1, I1, rx, ⟨a0, kv0, ex, x0⟩, q1⟩ => ?_)
  subst ex
  obtain rfl : u = Value.ref a0 := rx
  obtain ⟨xs, ep, _, _, dd⟩ := x0.dict I1
  refine ⟨dd.typeIs, fun b hb => by cases hb; obtain ⟨o, _, _, g1, g2, _⟩ := dd; exact ⟨o, g1, g2.2.1⟩, ?_⟩
  rw [htr]
  refine Calls.callWith_builtin rfl (Calls.evalArgs_plain (Calls.spliced_cons (thn (hk.run pins s1 σ H1 _ I1 q1) fun iv s2 ⟨y, H2, I2, ry, q2⟩ => Calls.spliced_cons (thn (hv.run pins s2 σ H2 _ I2 q2) fun fv s3 ⟨z, H3, I3, rz, a, b, kv, B3, ea, eb, sB, e3, hx, dv, hb, hz⟩ => Calls.spliced_nil ?_))))
  cases ea
  subst eb
  obtain rfl : iv = Value.ref b := ry
  refine l_get2 hu I3 ((at_base e3.sp.bas hx).mono e3.sp.bas rfl) (same_t e3.sp.bas hb) rz fun w' s' I' r' => ⟨_, H3, I', r', q _ H3 B3 sB e3 ?_⟩
  rcases dv.val l with ⟨n1, n2⟩ | ⟨v1, d1, n1, n2, n3⟩
  · rw [n1, n2]; exact hz
  · rw [n1, n2]; exact n3
end
/-! ### list(d) -/
def rListLd (P : Program) (w : World) (K : PySem.W.Frag) : List V → Hp → VK → Prop := fun xs H Q => ∃ T a kv, xs = [.ref a] ∧ Same T H ∧ LAt P w K T H a kv ∧ ∀ p ys, H p = none → DpAll K T ys (kv.map fun p => litD p.1) → Q (.ref p) (upd H p (.lst ys))
theorem cr_listLd {X : Cx} (hc : X.calm = true) : CallR X (.type "list") (rListLd X.prog X.w X.K) := by
  intro pins s σ H xs us Q I r ⟨T, a, kv, e, sT, x, q⟩
  subst e
  rw [Vals.ref1 r]
  obtain ⟨xs, ep, h1, h2, h3⟩ := x.ex
  obtain ⟨⟨o, es, g1, g2, g3, g4⟩, _, _⟩ := (show ObjOk X.prog X.w H s.heap a (ldX X.prog X.w a xs ep) from I.hok a _ h1)
  obtain ⟨ys, q1, q2⟩ := keys_vals h3 g4
  have hsz : es.size = kv.length := by
    have := congrArg List.length g4
    rw [List.length_map, List.length_map, Array.length_toList, ← Paired.length h3] at this
    exact this
  have hz : es.size ≤ sizeLine := by rw [hsz]; exact x.sz
  refine kdl_call (KdlSrc.rawDict x.lo) (I.ok.hd hc) (⟨o, g1, g2, g3⟩ : s.heap.DictRaw a es ep) hz fun h' tk acc c hk hS hacc => ?_
  have eacc : acc.toList = es.toList.map (·.key) := by
    refine List.ext_getElem? fun i => ?_
    rw [Array.getElem?_toList, List.getElem?_map, Array.getElem?_toList]
    by_cases hi : i < es.size
    · have hi' : i < acc.size := by rw [hacc.1]; exact hi
      have e := Array.getElem?_eq_getElem hi'
      obtain ⟨hj, hv⟩ := hacc.2 i _ e
      rw [e, hv, Array.getElem?_eq_getElem hi]
      rfl
    · rw [Array.getElem?_eq_none (by rw [hacc.1]; omega), Array.getElem?_eq_none (by omega)]
      rfl
  have hyl : ys.length = kv.length := by rw [dps_len q2, List.length_map]
  exact ⟨.ref s.heap.objs.size, upd H s.heap.objs.size (.lst ys), I.laid (t' := tk) hk (Nat.le_refl _) (show ObjOk X.prog X.w _ _ _ (.lst ys) from ⟨by rw [hyl]; exact x.sz, acc.toList, c, by rw [eacc]; exact q1, hS⟩), rfl, q _ ys (I.hok.fresh (Nat.le_refl _)) q2⟩
section
variable {X : Cx} {x : Str} {p px pos : Pos} {ρ : Rho} {kvs : List (Lt × PyData)}
/-- list(x), x an own dict -/
theorem n_listO (i : Nat) (hm : X.mg "list" = none) (hi : ρ[i]? = some (.own (ldO X.prog X.w X.K kvs)) := by rfl) (hc : X.calm = true := by rfl) (hg : Gl X "list" := by rfl) (hN : X.N[i]? = some x := by rfl) (hv : Vis X.env.scope x := by first | exact Or.inl rfl | exact Or.inr (Or.inl rfl) | exact Or.inr (Or.inr rfl)) (hd : (x == ("__debug__" : Str)) = false := by decide)
    (hcd : (x == ("__classdict__" : Str)) = false := by decide) (hst : starEach [.Name x px] X.env = (false, eval (.Name x px) X.env) :: starEach [] X.env := by rfl) : PE X (.Call (.Name "list" p) [.Name x px] [] pos) (tN ρ ρ (lstO X.K (kvs.map fun p => litD p.1))) :=
  PE.weak (pe_callTy (cr_listLd hc) hg hm (by decide +kernel) (pa_cons (pe_var hN hv hd hcd) pa_nil hst) (by decide) (by decide) hst) fun σ H Q ⟨F, B, e, q⟩ => by
    obtain ⟨a, h1, h2, h3, kv, hx, dv⟩ := e.own i _ hi
    refine ⟨.ref a, h1, B, a, kv, rfl, e.sp.bas, hx, fun p ys hp hy => ?_⟩
    have hk : (kv.map fun p => litD p.1) = kvs.map fun p => litD p.1 := by
      have := congrArg (List.map litD) dv.keys
      rw [List.map_map, List.map_map] at this
      exact this
    rw [hk] at hy
    obtain ⟨e2, f⟩ := e.fresh (c := lstO X.K (kvs.map fun p => litD p.1)) (o := .lst ys) hp ⟨ys, upd_same, hy⟩
    exact q p _ B (Same.refl B) e2 f
end
end Fc
/-! FcY: comprehensions over typed lists. -/
namespace Fc
open PySem PySem.W PySem.Spec PyProof.Rows L2
theorem Sub.unset {ρ : Rho} {j : Nat} {s : Sl} (h : ρ[j]? = some .no) : Sub (ρ.set j s) ρ := ⟨by rw [List.length_set], fun i t ht => by
  by_cases e : j = i
  · subst e
    rw [h] at ht
    cases ht
    exact .inl rfl
  · exact .inr (by rw [List.getElem?_set_ne e]; exact ht)⟩
theorem noAt1 {ρ : Rho} {j : Nat} (h : ρ[j]? = some .no) : NoAt ρ [j] := NoAt.cons h NoAt.nil
theorem get_map {α : Type} {xs : List α} {rd : α → Rp} {i : Nat} {r : Rp} (h : (xs.map rd)[i]? = some r) : ∃ a, xs[i]? = some a ∧ a ∈ xs ∧ r = rd a := by
  rw [List.getElem?_map] at h
  cases e : xs[i]? with
  | none => rw [e] at h; cases h
  | some a => rw [e] at h; cases h; exact ⟨a, rfl, List.mem_of_getElem? e, rfl⟩
theorem i_listT {X : Cx} {tg l : Expr} {ρ ρ1 : Rho} {α : Type} {xs : List α} {f : α → PyData} (h : PE X l (tE ρ ρ1 (dat X.K (.list (xs.map f))))) : PI X tg l (iD ρ ρ1 (xs.map fun a => dat X.K (f a))) := by
  have := i_list (tg := tg) h
  rw [List.map_map] at this
  exact this
theorem i_tupT {X : Cx} {tg l : Expr} {ρ ρ1 : Rho} {α : Type} {xs : List α} {f : α → PyData} (h : PE X l (tE ρ ρ1 (dat X.K (.tuple (xs.map f))))) : PI X tg l (iD ρ ρ1 (xs.map fun a => dat X.K (f a))) := by
  have := i_tup (tg := tg) h
  rw [List.map_map] at this
  exact this
/-- the block of a comprehension -/
abbrev Blk (X : Cx) (scope : Scope) (p : Cx → Prop) : Prop := ∀ (s : Shared) (H : Hp) (C : Addr) (cl : List (Str × Addr)) (fp : List Addr), p (X.blk s H scope (compEnvC scope cl C X.env) fp)
section
variable {X : Cx} {elt tg iter : Expr} {ifs : List Expr} {scope : Scope} {own : List (Str × Nat)} {pos spos py : Pos} {ρ ρ0 : Rho} {g : TG} {y : Str}
/-- what is asked of [e for t in xs if ..] -/
structure LcT (X : Cx) (elt tg iter : Expr) (ifs : List Expr) (scope : Scope) (own : List (Str × Nat)) (ρ ρ0 : Rho) (g : TG) {α : Type} (xs : List α) (rd : α → Rp) (ρb : α → Rho) (keep : α → Bool) (f : α → PyData) : Prop where
  iter : PI X tg iter (iD ρ ρ0 (xs.map rd))
  blk : BlkOk X.N X.env.scope scope own
  tgt : Blk X scope fun Y => PG Y tg g
  noat : NoAt ρ0 (own.map (·.2))
  tg : ∀ a ∈ xs, Tg g (own.map (·.2)) ρ0 (rd a) (ρb a)
  back : ∀ a ∈ xs, Sub (ρb a) ρ0
  test : ∀ a ∈ xs, Blk X scope fun Y => PTs Y ifs (tT (ρb a) (ρb a) (keep a))
  elem : ∀ a ∈ xs, keep a = true → Blk X scope fun Y => PE Y elt (tE (ρb a) (ρb a) (dat X.K (f a)))
  few : xs.length ≤ 1000000
theorem LcT.ok {α : Type} {xs : List α} {rd : α → Rp} {ρb : α → Rho} {keep : α → Bool} {f : α → PyData} (L : LcT X elt tg iter ifs scope own ρ ρ0 g xs rd ρb keep f) :
    LcOk X elt tg iter ifs scope own ρ ρ0 (xs.map rd) g (fun _ => ρ0) (fun i => (xs[i]?.map ρb).getD ρ0) (fun i => (xs[i]?.map keep).getD false) (fun i => (xs[i]?.map f).getD .none) where
  iter := L.iter
  blk := L.blk
  tgt := L.tgt
  sub := Sub.refl _
  noat := fun _ => L.noat
  tg := fun i r h => by
    obtain ⟨a, e, m, rfl⟩ := get_map h
    rw [e]
    exact L.tg a m
  test := fun i h => by
    rw [List.length_map] at h
    have e := List.getElem?_eq_getElem h
    rw [e]
    exact L.test _ (List.mem_of_getElem? e)
  elem := fun i h hk => by
    rw [List.length_map] at h
    have e := List.getElem?_eq_getElem h
    rw [e] at hk ⊢
    exact ⟨_, L.back _ (List.mem_of_getElem? e), L.elem _ (List.mem_of_getElem? e) hk⟩
  skip := fun i h _ => by
    rw [List.length_map] at h
    have e := List.getElem?_eq_getElem h
    rw [e]
    exact L.back _ (List.mem_of_getElem? e)
  few := by rw [List.length_map]; exact L.few
theorem LcT.acc {α : Type} (xs : List α) (keep : α → Bool) (f : α → PyData) : accD (fun i => (xs[i]?.map keep).getD false) (fun i => (xs[i]?.map f).getD .none) xs.length = (xs.filter keep).map f := by
  have := accD_filter xs keep f (fun i => (xs[i]?.map keep).getD false) (fun i => (xs[i]?.map f).getD .none) (fun i x h => by rw [h]; rfl) (fun i x h => by rw [h]; rfl) xs.length (Nat.le_refl _)
  rw [List.take_length] at this
  exact this
theorem d_lcT {α : Type} {xs : List α} {rd : α → Rp} {ρb : α → Rho} {keep : α → Bool} {f : α → PyData} (L : LcT X elt tg iter ifs scope own ρ ρ0 g xs rd ρb keep f) (hN : X.N.Nodup := by assumption) (hc : X.calm = true := by rfl) (hs : ∀ x, foldedSetIterable iter X.env x = pure x := by intro _; rfl) :
    PE X (.ListComp elt [⟨tg, iter, ifs, 0⟩] scope pos) (tE ρ ρ0 (dat X.K (.list ((xs.filter keep).map f)))) :=
  d_lc L.ok (by rw [List.length_map]; exact LcT.acc xs keep f) rfl hN hc hs
theorem n_lcT {α : Type} {xs : List α} {rd : α → Rp} {ρb : α → Rho} {keep : α → Bool} {f : α → PyData} (L : LcT X elt tg iter ifs scope own ρ ρ0 g xs rd ρb keep f) (hN : X.N.Nodup := by assumption) (hc : X.calm = true := by rfl) (hs : ∀ x, foldedSetIterable iter X.env x = pure x := by intro _; rfl) :
    PE X (.ListComp elt [⟨tg, iter, ifs, 0⟩] scope pos) (tN ρ ρ0 (lstO X.K ((xs.filter keep).map f))) := by
  have h := n_lc (pos := pos) L.ok hN hc hs
  rw [List.length_map, LcT.acc] at h
  exact h
theorem s_lcT (i : Nat) {α : Type} {xs : List α} {rd : α → Rp} {ρb : α → Rho} {keep : α → Bool} {f : α → PyData} (L : LcT X elt tg iter ifs scope own ρ ρ0 g xs rd ρb keep f) (hN : X.N.Nodup := by assumption) (hc : X.calm = true := by rfl) (hy : X.N[i]? = some y := by rfl) (hyl : X.env.scope.names.lookup y = some .local := by rfl)
    (hsw : swapsWith (.ListComp elt [⟨tg, iter, ifs, 0⟩] scope pos) (some (.Name y py)) spos.line X.env = pure true := by exact sw_true rfl rfl rfl (by decide +kernel)) (hs : ∀ x, foldedSetIterable iter X.env x = pure x := by intro _; rfl) :
    PS X (.Assign [.Name y py] (.ListComp elt [⟨tg, iter, ifs, 0⟩] scope pos) spos) (tS ρ (.nx (ρ0.set i (.per (dat X.K (.list ((xs.filter keep).map f))))))) :=
  s_lc i L.ok (by rw [List.length_map]; exact LcT.acc xs keep f) rfl hN hc hy hyl hsw hs
/-- one plain name, no test -/
theorem lc_one {α : Type} (xs : List α) (rd : α → Rp) (f : α → PyData) (j : Nat) {x : Str} {px : Pos} (hi : PI X (.Name x px) iter (iD ρ ρ0 (xs.map rd))) (blk : BlkOk X.N X.env.scope scope [(x, j)]) (tgt : Blk X scope fun Y => PG Y (.Name x px) (gName j)) (hno : ρ0[j]? = some .no) (few : xs.length ≤ 1000000)
    (elem : ∀ a ∈ xs, Blk X scope fun Y => PE Y elt (tE (ρ0.set j (.per (rd a))) (ρ0.set j (.per (rd a))) (dat X.K (f a)))) : LcT X elt (.Name x px) iter [] scope [(x, j)] ρ ρ0 (gName j) xs rd (fun a => ρ0.set j (.per (rd a))) (fun _ => true) f where
  iter := hi
  blk := blk
  tgt := tgt
  noat := noAt1 hno
  tg := fun a _ => tg_name (by simp)
  back := fun a _ => Sub.unset hno
  test := fun a _ _ _ _ _ _ => ts_nil
  elem := fun a h _ => elem a h
  few := few
/-- .. one test -/
theorem lc_if {α : Type} (xs : List α) (rd : α → Rp) (keep : α → Bool) (f : α → PyData) (j : Nat) {x : Str} {px : Pos} {c : Expr} (hi : PI X (.Name x px) iter (iD ρ ρ0 (xs.map rd))) (blk : BlkOk X.N X.env.scope scope [(x, j)]) (tgt : Blk X scope fun Y => PG Y (.Name x px) (gName j)) (hno : ρ0[j]? = some .no) (few : xs.length ≤ 1000000)
    (test : ∀ a ∈ xs, Blk X scope fun Y => PT Y c (tT (ρ0.set j (.per (rd a))) (ρ0.set j (.per (rd a))) (keep a)))
    (elem : ∀ a ∈ xs, keep a = true → Blk X scope fun Y => PE Y elt (tE (ρ0.set j (.per (rd a))) (ρ0.set j (.per (rd a))) (dat X.K (f a)))) : LcT X elt (.Name x px) iter [c] scope [(x, j)] ρ ρ0 (gName j) xs rd (fun a => ρ0.set j (.per (rd a))) keep f where
  iter := hi
  blk := blk
  tgt := tgt
  noat := noAt1 hno
  tg := fun a _ => tg_name (by simp)
  back := fun a _ => Sub.unset hno
  test := fun a h s H C cl fp => ts_one (test a h s H C cl fp)
  elem := elem
  few := few
theorem filter_tt {α : Type} (xs : List α) : xs.filter (fun _ => true) = xs := List.filter_eq_self.mpr fun _ _ => rfl
end
/-! ### dict comprehensions -/
/-- keys and values stored from the left -/
def makeL {κ α : Type} [DecidableEq κ] (ky : α → κ) (f : α → PyData) (xs : List α) : List (κ × PyData) := xs.foldl (fun acc a => putD acc (ky a) (f a)) []
section
variable {X : Cx} {kx vx tg iter : Expr} {ifs : List Expr} {scope : Scope} {own : List (Str × Nat)} {pos spos py : Pos} {ρ ρ0 : Rho} {g : TG} {y : Str}
structure DlT (X : Cx) (kx vx tg iter : Expr) (scope : Scope) (own : List (Str × Nat)) (ρ ρ0 : Rho) (g : TG) {α : Type} (xs : List α) (rd : α → Rp) (ρb : α → Rho) (kd : α → PyData) (f : α → PyData) : Prop where
  iter : PI X tg iter (iD ρ ρ0 (xs.map rd))
  blk : BlkOk X.N X.env.scope scope own
  tgt : Blk X scope fun Y => PG Y tg g
  noat : NoAt ρ0 (own.map (·.2))
  tg : ∀ a ∈ xs, Tg g (own.map (·.2)) ρ0 (rd a) (ρb a)
  back : ∀ a ∈ xs, Sub (ρb a) ρ0
  key : ∀ a ∈ xs, Blk X scope fun Y => PE Y kx (tE (ρb a) (ρb a) (dat X.K (kd a)))
  val : ∀ a ∈ xs, Blk X scope fun Y => PE Y vx (tE (ρb a) (ρb a) (dat X.K (f a)))
  few : xs.length ≤ 1000000
theorem DlT.ok {α : Type} {xs : List α} {rd : α → Rp} {ρb : α → Rho} {ky : α → Lt} {f : α → PyData} (L : DlT X kx vx tg iter scope own ρ ρ0 g xs rd ρb (fun a => litD (ky a)) f) :
    DlOk X kx vx tg iter [] scope own ρ ρ0 (xs.map rd) g (fun _ => ρ0) (fun i => (xs[i]?.map ρb).getD ρ0) (fun _ => true) (fun i => (xs[i]?.map ky).getD (Str.empty, false)) (fun i => (xs[i]?.map f).getD .none) where
  iter := L.iter
  blk := L.blk
  tgt := L.tgt
  sub := Sub.refl _
  noat := fun _ => L.noat
  tg := fun i r h => by
    obtain ⟨a, e, m, rfl⟩ := get_map h
    rw [e]
    exact L.tg a m
  test := fun i h _ _ _ _ _ => ts_nil
  elem := fun i h hk => by
    rw [List.length_map] at h
    have e := List.getElem?_eq_getElem h
    rw [e]
    exact ⟨_, _, L.back _ (List.mem_of_getElem? e), L.key _ (List.mem_of_getElem? e), L.val _ (List.mem_of_getElem? e)⟩
  skip := fun i h hk => by cases hk
  few := by rw [List.length_map]; exact L.few
theorem DlT.okK {α : Type} {xs : List α} {rd : α → Rp} {ρb : α → Rho} {ky : α → Str} {f : α → PyData} (L : DlT X kx vx tg iter scope own ρ ρ0 g xs rd ρb (fun a => .str (ky a)) f) :
    DkOk X kx vx tg iter [] scope own ρ ρ0 (xs.map rd) g (fun _ => ρ0) (fun i => (xs[i]?.map ρb).getD ρ0) (fun _ => true) (fun i => (xs[i]?.map ky).getD Str.empty) (fun i => (xs[i]?.map f).getD .none) where
  iter := L.iter
  blk := L.blk
  tgt := L.tgt
  sub := Sub.refl _
  noat := fun _ => L.noat
  tg := fun i r h => by
    obtain ⟨a, e, m, rfl⟩ := get_map h
    rw [e]
    exact L.tg a m
  test := fun i h _ _ _ _ _ => ts_nil
  elem := fun i h hk => by
    rw [List.length_map] at h
    have e := List.getElem?_eq_getElem h
    rw [e]
    exact ⟨_, _, L.back _ (List.mem_of_getElem? e), L.key _ (List.mem_of_getElem? e), L.val _ (List.mem_of_getElem? e)⟩
  skip := fun i h hk => by cases hk
  few := by rw [List.length_map]; exact L.few
theorem accL_take {α : Type} (xs : List α) (ky : α → Lt) (f : α → PyData) : ∀ i, i ≤ xs.length → accL (fun _ => true) (fun i => (xs[i]?.map ky).getD (Str.empty, false)) (fun i => (xs[i]?.map f).getD .none) i = makeL ky f (xs.take i)
  | 0, _ => rfl
  | i + 1, h => by
    have hi : i < xs.length := h
    have e := List.getElem?_eq_getElem hi
    unfold accL
    rw [if_pos rfl, accL_take xs ky f i (by omega), List.take_add_one, e]
    unfold makeL
    rw [List.foldl_append]
    rfl
theorem accK_take {α : Type} (xs : List α) (ky : α → Str) (f : α → PyData) : ∀ i, i ≤ xs.length → accK (fun _ => true) (fun i => (xs[i]?.map ky).getD Str.empty) (fun i => (xs[i]?.map f).getD .none) i = makeL (fun a => (.inr (ky a) : Key)) f (xs.take i)
  | 0, _ => rfl
  | i + 1, h => by
    have hi : i < xs.length := h
    have e := List.getElem?_eq_getElem hi
    unfold accK
    rw [if_pos rfl, accK_take xs ky f i (by omega), List.take_add_one, e]
    unfold makeL
    rw [List.foldl_append]
    rfl
theorem n_dlT {α : Type} {xs : List α} {rd : α → Rp} {ρb : α → Rho} {ky : α → Lt} {f : α → PyData} (L : DlT X kx vx tg iter scope own ρ ρ0 g xs rd ρb (fun a => litD (ky a)) f) (hu : X.A.units < cLine) (hN : X.N.Nodup := by assumption) (hc : X.calm = true := by rfl) (hs : ∀ x, foldedSetIterable iter X.env x = pure x := by intro _; rfl) :
    PE X (.DictComp kx vx [⟨tg, iter, [], 0⟩] scope pos) (tN ρ ρ0 (ldO X.prog X.w X.K (makeL ky f xs))) := by
  have h := n_dl (pos := pos) L.ok hu hN hc hs
  rw [List.length_map, accL_take xs ky f _ (Nat.le_refl _), List.take_length] at h
  exact h
theorem s_dlT (i : Nat) {α : Type} {xs : List α} {rd : α → Rp} {ρb : α → Rho} {ky : α → Lt} {f : α → PyData} (L : DlT X kx vx tg iter scope own ρ ρ0 g xs rd ρb (fun a => litD (ky a)) f) (hu : X.A.units < cLine) (hN : X.N.Nodup := by assumption) (hc : X.calm = true := by rfl) (hy : X.N[i]? = some y := by rfl) (hyl : X.env.scope.names.lookup y = some .local := by rfl)
    (hsw : swapsWith (.DictComp kx vx [⟨tg, iter, [], 0⟩] scope pos) (some (.Name y py)) spos.line X.env = pure true := by exact sw_dict rfl rfl rfl (by decide +kernel)) (hs : ∀ x, foldedSetIterable iter X.env x = pure x := by intro _; rfl) :
    PS X (.Assign [.Name y py] (.DictComp kx vx [⟨tg, iter, [], 0⟩] scope pos) spos) (tS ρ (.nx (ρ0.set i (.own (ldO X.prog X.w X.K (makeL ky f xs)))))) := by
  have h := s_dl (pos := pos) (spos := spos) (py := py) i L.ok hu hN hc hy hyl hsw hs
  rw [List.length_map, accL_take xs ky f _ (Nat.le_refl _), List.take_length] at h
  exact h
theorem n_dkT {α : Type} {xs : List α} {rd : α → Rp} {ρb : α → Rho} {ky : α → Str} {f : α → PyData} (L : DlT X kx vx tg iter scope own ρ ρ0 g xs rd ρb (fun a => .str (ky a)) f) (hN : X.N.Nodup := by assumption) (hc : X.calm = true := by rfl) (hs : ∀ x, foldedSetIterable iter X.env x = pure x := by intro _; rfl) :
    PE X (.DictComp kx vx [⟨tg, iter, [], 0⟩] scope pos) (tN ρ ρ0 (kdO X.K (makeL (fun a => (.inr (ky a) : Key)) f xs))) := by
  have h := n_dk (pos := pos) L.okK hN hc hs
  rw [List.length_map, accK_take xs ky f _ (Nat.le_refl _), List.take_length] at h
  exact h
theorem dl_one {α : Type} (xs : List α) (rd : α → Rp) (kd f : α → PyData) (j : Nat) {x : Str} {px : Pos} (hi : PI X (.Name x px) iter (iD ρ ρ0 (xs.map rd))) (blk : BlkOk X.N X.env.scope scope [(x, j)]) (tgt : Blk X scope fun Y => PG Y (.Name x px) (gName j)) (hno : ρ0[j]? = some .no) (few : xs.length ≤ 1000000)
    (key : ∀ a ∈ xs, Blk X scope fun Y => PE Y kx (tE (ρ0.set j (.per (rd a))) (ρ0.set j (.per (rd a))) (dat X.K (kd a))))
    (val : ∀ a ∈ xs, Blk X scope fun Y => PE Y vx (tE (ρ0.set j (.per (rd a))) (ρ0.set j (.per (rd a))) (dat X.K (f a)))) : DlT X kx vx (.Name x px) iter scope [(x, j)] ρ ρ0 (gName j) xs rd (fun a => ρ0.set j (.per (rd a))) kd f where
  iter := hi
  blk := blk
  tgt := tgt
  noat := noAt1 hno
  tg := fun a _ => tg_name (by simp)
  back := fun a _ => Sub.unset hno
  key := key
  val := val
  few := few
end
end Fc
/-! FcKv: lists of keys and values. -/
namespace Fc
open PySem PySem.W PySem.Spec PyProof.Rows L2
section
variable {κ : Type} [DecidableEq κ]
theorem valD_nil (k : κ) : valD ([] : List (κ × PyData)) k = none := rfl
theorem valD_cons (p : κ × PyData) (r : List (κ × PyData)) (k : κ) : valD (p :: r) k = if p.1 = k then some p.2 else valD r k := by
  by_cases h : p.1 = k
  · rw [valD_pos h, if_pos h]
  · rw [valD_neg h, if_neg h]
theorem valD_isSome {kvs : List (κ × PyData)} {k : κ} : (valD kvs k).isSome = true ↔ k ∈ kvs.map (·.1) := by
  induction kvs with
  | nil => simp [valD]
  | cons p r ih =>
    rw [valD_cons, List.map_cons, List.mem_cons]
    by_cases h : p.1 = k
    · rw [if_pos h]
      exact ⟨fun _ => .inl h.symm, fun _ => rfl⟩
    · rw [if_neg h, ih]
      exact ⟨.inr, fun z => z.resolve_left fun e => h e.symm⟩
theorem valD_none {kvs : List (κ × PyData)} {k : κ} : valD kvs k = none ↔ k ∉ kvs.map (·.1) := by
  rw [← valD_isSome]
  cases valD kvs k <;> simp
theorem valD_app (xs ys : List (κ × PyData)) (k : κ) : valD (xs ++ ys) k = (valD xs k).or (valD ys k) := by
  induction xs with
  | nil => rfl
  | cons p r ih =>
    rw [List.cons_append, valD_cons, valD_cons, ih]
    split <;> rfl
theorem valD_put (kvs : List (κ × PyData)) (k k' : κ) (v : PyData) : valD (putD kvs k v) k' = if k = k' then some v else valD kvs k' := by
  unfold putD
  by_cases h : (valD kvs k).isSome = true
  · rw [if_pos h]
    induction kvs with
    | nil => simp [valD] at h
    | cons p r ih =>
      rw [List.map_cons, valD_cons, valD_cons]
      by_cases hp : p.1 = k
      · rw [if_pos hp]
        show (if p.1 = k' then some v else _) = _
        by_cases hk : k = k'
        · rw [if_pos (hp.trans hk), if_pos hk]
        · rw [if_neg fun z => hk (hp.symm.trans z), if_neg hk, if_neg fun z => hk (hp.symm.trans z)]
          have no : ∀ (r : List (κ × PyData)), valD (r.map fun kv => if kv.1 = k then (kv.1, v) else kv) k' = valD r k' := by
            intro r
            induction r with
            | nil => rfl
            | cons q r ih2 =>
              rw [List.map_cons, valD_cons, valD_cons, ih2]
              by_cases hq : q.1 = k
              · rw [if_pos hq]
                show (if q.1 = k' then some v else _) = _
                rw [if_neg fun z => hk (hq.symm.trans z), if_neg fun z => hk (hq.symm.trans z)]
              · rw [if_neg hq]
          exact no r
      · rw [if_neg hp]
        rw [valD_cons, if_neg hp] at h
        have := ih h
        rw [this]
        by_cases hk : k = k'
        · rw [if_pos hk, if_pos hk, if_neg fun z => hp (z.trans hk.symm)]
        · rw [if_neg hk, if_neg hk]
  · rw [if_neg h, valD_app, valD_cons]
    have hn : valD kvs k = none := by
      cases e : valD kvs k with
      | none => rfl
      | some x => rw [e] at h; exact absurd rfl h
    by_cases hk : k = k'
    · subst hk
      rw [hn, if_pos rfl, if_pos rfl]
      rfl
    · rw [if_neg hk, if_neg hk, valD_nil]
      cases valD kvs k' <;> rfl
theorem putD_keys (kvs : List (κ × PyData)) (k : κ) (v : PyData) : (putD kvs k v).map (·.1) = if k ∈ kvs.map (·.1) then kvs.map (·.1) else kvs.map (·.1) ++ [k] := by
  unfold putD
  by_cases h : (valD kvs k).isSome = true
  · rw [if_pos h, if_pos (valD_isSome.mp h), List.map_map]
    refine List.map_congr_left fun p _ => ?_
    show (if p.1 = k then (p.1, v) else p).1 = p.1
    split <;> rfl
  · rw [if_neg h, if_neg fun z => h (valD_isSome.mpr z), List.map_append]
    rfl
section
variable {α : Type} (ky : α → κ) (f : α → PyData)
theorem makeL_snoc (xs : List α) (a : α) : makeL ky f (xs ++ [a]) = putD (makeL ky f xs) (ky a) (f a) := by
  unfold makeL
  rw [List.foldl_append]
  rfl
theorem makeL_val (xs : List α) (k : κ) : valD (makeL ky f xs) k = (xs.reverse.find? fun a => decide (ky a = k)).map f := by
  have key : ∀ n (xs : List α), xs.length = n → valD (makeL ky f xs) k = (xs.reverse.find? fun a => decide (ky a = k)).map f := by
    intro n
    induction n with
    | zero => intro xs h; rw [List.length_eq_zero_iff.mp h]; rfl
    | succ n ih =>
      intro xs h
      obtain ⟨ys, a, rfl⟩ : ∃ ys a, xs = ys ++ [a] := ⟨xs.dropLast, xs.getLast (by intro z; rw [z] at h; cases h), (List.dropLast_concat_getLast _).symm⟩
      rw [makeL_snoc, valD_put, List.reverse_append, List.reverse_singleton, List.singleton_append, List.find?_cons]
      by_cases e : ky a = k
      · rw [if_pos e, decide_eq_true e]
        rfl
      · rw [if_neg e, decide_eq_false e]
        exact ih ys (by rw [List.length_append, List.length_singleton] at h; omega)
  exact key _ xs rfl
theorem makeL_none {xs : List α} {k : κ} (h : ∀ a ∈ xs, ky a ≠ k) : valD (makeL ky f xs) k = none := by
  rw [makeL_val, List.find?_eq_none.mpr fun a ha => by simpa using h a (List.mem_reverse.mp ha)]
  rfl
theorem makeL_some {xs : List α} {a : α} (ha : a ∈ xs) (h : ∀ b ∈ xs, ky b = ky a → f b = f a) : valD (makeL ky f xs) (ky a) = some (f a) := by
  rw [makeL_val]
  cases e : xs.reverse.find? fun b => decide (ky b = ky a) with
  | none =>
    have := List.find?_eq_none.mp e a (List.mem_reverse.mpr ha)
    simp at this
  | some b =>
    have h1 := List.find?_some e
    have h2 := List.mem_of_find?_eq_some e
    rw [Option.map_some, h b (List.mem_reverse.mp h2) (of_decide_eq_true h1)]
theorem makeL_keys : ∀ xs : List α, ((makeL ky f xs).map (·.1)).Nodup ∧ ∀ k, k ∈ (makeL ky f xs).map (·.1) ↔ ∃ a ∈ xs, ky a = k := by
  have key : ∀ n (xs : List α), xs.length = n → ((makeL ky f xs).map (·.1)).Nodup ∧ ∀ k, k ∈ (makeL ky f xs).map (·.1) ↔ ∃ a ∈ xs, ky a = k := by
    intro n
    induction n with
    | zero =>
      intro xs h
      rw [List.length_eq_zero_iff.mp h]
      exact ⟨List.nodup_nil, fun k => ⟨fun z => (nomatch z), fun ⟨a, z, _⟩ => (nomatch z)⟩⟩
    | succ n ih =>
      intro xs h
      obtain ⟨ys, a, rfl⟩ : ∃ ys a, xs = ys ++ [a] := ⟨xs.dropLast, xs.getLast (by intro z; rw [z] at h; cases h), (List.dropLast_concat_getLast _).symm⟩
      obtain ⟨h1, h2⟩ := ih ys (by rw [List.length_append, List.length_singleton] at h; omega)
      rw [makeL_snoc, putD_keys]
      by_cases hm : ky a ∈ (makeL ky f ys).map (·.1)
      · rw [if_pos hm]
        refine ⟨h1, fun k => (h2 k).trans ⟨fun ⟨b, hb, e⟩ => ⟨b, List.mem_append_left _ hb, e⟩, fun ⟨b, hb, e⟩ => ?_⟩⟩
        rcases List.mem_append.mp hb with hb | hb
        · exact ⟨b, hb, e⟩
        · rw [List.mem_singleton.mp hb] at e
          exact (h2 k).mp (e ▸ hm)
      · rw [if_neg hm]
        refine ⟨List.nodup_append.mpr ⟨h1, by simp, fun x hx y hy => by rw [List.mem_singleton.mp hy]; exact fun e => hm (e ▸ hx)⟩, fun k => ?_⟩
        rw [List.mem_append, List.mem_singleton, h2]
        refine ⟨fun z => ?_, fun ⟨b, hb, e⟩ => ?_⟩
        · rcases z with ⟨b, hb, e⟩ | e
          · exact ⟨b, List.mem_append_left _ hb, e⟩
          · exact ⟨a, by simp, e.symm⟩
        · rcases List.mem_append.mp hb with hb | hb
          · exact .inl ⟨b, hb, e⟩
          · rw [List.mem_singleton.mp hb] at e
            exact .inr e.symm
  exact fun xs => key _ xs rfl
/-- keys that differ: just the pairs -/
theorem makeL_map {xs : List α} (h : (xs.map ky).Nodup) : makeL ky f xs = xs.map fun a => (ky a, f a) := by
  have key : ∀ n (xs : List α), xs.length = n → (xs.map ky).Nodup → makeL ky f xs = xs.map fun a => (ky a, f a) := by
    intro n
    induction n with
    | zero => intro xs h _; rw [List.length_eq_zero_iff.mp h]; rfl
    | succ n ih =>
      intro xs h hn
      obtain ⟨ys, a, rfl⟩ : ∃ ys a, xs = ys ++ [a] := ⟨xs.dropLast, xs.getLast (by intro z; rw [z] at h; cases h), (List.dropLast_concat_getLast _).symm⟩
      rw [List.map_append] at hn
      obtain ⟨n1, _, n3⟩ := List.nodup_append.mp hn
      have e := ih ys (by rw [List.length_append, List.length_singleton] at h; omega) n1
      rw [makeL_snoc, putD_new _ ?_, e, List.map_append]
      · rfl
      · refine makeL_none ky f fun b hb z => ?_
        exact n3 _ (List.mem_map_of_mem hb) _ (List.mem_map_of_mem (List.mem_singleton.mpr rfl)) z
  exact key _ xs rfl h
end
end
end Fc
/-! FcZ: ==, !=, in of data without dicts. -/
namespace Fc
open PySem PySem.W PySem.Spec PyProof.Rows L2
/-- data that can be compared -/
structure Pl (d : PyData) : Prop where
  pl : d.plain = true
  lo : d.depth ≤ 16
theorem plT {α : Type} [DecidableEq α] [Datum α] (a : α) (h : Datum.depth α ≤ 16 := by decide) : Pl (Datum.toD a) := ⟨Datum.plain a, Nat.le_trans (Datum.depth_le a) h⟩
def rEqP (K : PySem.W.Frag) (neg : Bool) : R2 := fun x y H Q => ∃ d e, Dp K H x d ∧ Dp K H y e ∧ Pl d ∧ Pl e ∧ Q (.bl (if neg then !PyData.eqv d e else PyData.eqv d e)) H
def rInP (K : PySem.W.Frag) (neg : Bool) : R2 := fun x y H Q => ∃ d ds, Dp K H x d ∧ Dp K H y (.list ds) ∧ Pl d ∧ Pl (.list ds) ∧ Q (.bl (if neg then !(ds.any fun z => PyData.eqv z d) else ds.any fun z => PyData.eqv z d)) H
section
variable {X : Cx}
theorem op_eqP (hu : X.A.units + 64 < cLine) : OpR X (compareOp .Eq) (rEqP X.K false) := by
  intro pins s σ H x y v u Q I rx ry ⟨d, e, hd, he, pd, pe, q⟩
  obtain ⟨as, r1⟩ := Dp.reads I d x v hd rx
  obtain ⟨bs, r2⟩ := Dp.reads I e y u he ry
  exact SeqAt.eq_plain r1 r2 pd.pl pe.pl (by have := pd.lo; have := pe.lo; omega) ⟨.bl _, H, I, rfl, q⟩
theorem op_neP (hu : X.A.units + 64 < cLine) : OpR X (compareOp .NotEq) (rEqP X.K true) := by
  intro pins s σ H x y v u Q I rx ry ⟨d, e, hd, he, pd, pe, q⟩
  obtain ⟨as, r1⟩ := Dp.reads I d x v hd rx
  obtain ⟨bs, r2⟩ := Dp.reads I e y u he ry
  exact SeqAt.ne_plain r1 r2 pd.pl pe.pl (by have := pd.lo; have := pe.lo; omega) ⟨.bl _, H, I, rfl, q⟩
theorem op_notInP (hu : X.A.units + 64 < cLine) : OpR X (compareOp .NotIn) (rInP X.K true) := by
  intro pins s σ H x y v u Q I rx ry ⟨d, ds, hd, he, pd, pe, q⟩
  obtain ⟨as, r1⟩ := Dp.reads I d x v hd rx
  obtain ⟨bs, r2⟩ := Dp.reads I (.list ds) y u he ry
  have h1 : PyData.plainAll ds = true := by have := pe.pl; rw [PyData.plain] at this; exact this
  have h2 := pe.lo
  rw [PyData.depth] at h2
  exact SeqAt.notIn_list_data r2 r1 h1 pd.pl (by have := pd.lo; omega) ⟨.bl _, H, I, rfl, q⟩
theorem op_inP (hu : X.A.units + 64 < cLine) : OpR X (compareOp .In) (rInP X.K false) := by
  intro pins s σ H x y v u Q I rx ry ⟨d, ds, hd, he, pd, pe, q⟩
  obtain ⟨as, r1⟩ := Dp.reads I d x v hd rx
  obtain ⟨bs, r2⟩ := Dp.reads I (.list ds) y u he ry
  have h1 : PyData.plainAll ds = true := by have := pe.pl; rw [PyData.plain] at this; exact this
  have h2 := pe.lo
  rw [PyData.depth] at h2
  exact SeqAt.in_list_data r2 r1 h1 pd.pl (by have := pd.lo; omega) ⟨.bl _, H, I, rfl, q⟩
end
section
variable {K : PySem.W.Frag} {d e : PyData} {b : Bool}
theorem opd_eqP (h1 : Pl d) (h2 : Pl e) (h : PyData.eqv d e = b) : Opd (rEqP K false) (dat K d) (dat K e) (dat K (.bool b)) := fun B H x y Q s hx hy q =>
  ⟨d, e, dp_mono s _ _ hx, dp_mono s _ _ hy, h1, h2, by rw [h]; exact q _ B H (Grow.refl s) (Dp.bl _)⟩
theorem opd_neP (h1 : Pl d) (h2 : Pl e) (h : (!PyData.eqv d e) = b) : Opd (rEqP K true) (dat K d) (dat K e) (dat K (.bool b)) := fun B H x y Q s hx hy q =>
  ⟨d, e, dp_mono s _ _ hx, dp_mono s _ _ hy, h1, h2, by rw [h]; exact q _ B H (Grow.refl s) (Dp.bl _)⟩
theorem opdO_neP {ds es : List PyData} (h1 : Pl (.list ds)) (h2 : Pl (.list es)) (h : (!PyData.eqv (.list ds) (.list es)) = b) : OpdO (rEqP K true) (lstO K ds) (dat K (.list es)) (dat K (.bool b)) := fun B H a y Q s hc hy q =>
  ⟨_, _, lst_at hc s, dp_mono s _ _ hy, h1, h2, by rw [h]; exact q _ B H (Grow.refl s) (Dp.bl _)⟩
theorem opd_inP {ds : List PyData} (h1 : Pl d) (h2 : Pl (.list ds)) (h : (ds.any fun z => PyData.eqv z d) = b) : Opd (rInP K false) (dat K d) (dat K (.list ds)) (dat K (.bool b)) := fun B H x y Q s hx hy q =>
  ⟨d, ds, dp_mono s _ _ hx, dp_mono s _ _ hy, h1, h2, by rw [h]; exact q _ B H (Grow.refl s) (Dp.bl _)⟩
theorem opd_notInP {ds : List PyData} (h1 : Pl d) (h2 : Pl (.list ds)) (h : (!(ds.any fun z => PyData.eqv z d)) = b) : Opd (rInP K true) (dat K d) (dat K (.list ds)) (dat K (.bool b)) := fun B H x y Q s hx hy q =>
  ⟨d, ds, dp_mono s _ _ hx, dp_mono s _ _ hy, h1, h2, by rw [h]; exact q _ B H (Grow.refl s) (Dp.bl _)⟩
/-- .. of typed data -/
theorem opd_eqT {α : Type} [DecidableEq α] [Datum α] {x y : α} (h : decide (x = y) = b) (hl : Datum.depth α ≤ 16 := by decide) : Opd (rEqP K false) (dat K (Datum.toD x)) (dat K (Datum.toD y)) (dat K (.bool b)) := opd_eqP (plT x hl) (plT y hl) ((Datum.eqv x y).trans h)
theorem opd_neT {α : Type} [DecidableEq α] [Datum α] {x y : α} (h : (!decide (x = y)) = b) (hl : Datum.depth α ≤ 16 := by decide) : Opd (rEqP K true) (dat K (Datum.toD x)) (dat K (Datum.toD y)) (dat K (.bool b)) := opd_neP (plT x hl) (plT y hl) (by rw [Datum.eqv]; exact h)
end
end Fc
/-! FcT: the text by places (printed by gen.py). -/
namespace Fc
open PySem PySem.W PySem.Spec PyProof.Rows L2
def topS (i : Nat) : Stmt := PySem.Challenge.pw_flagclause_k61_whole_shortest_chains.main.body.getD i (.Pass ⟨0, 0, 0, 0⟩)
abbrev s_Conflict_init : Stmt := inClass (topS 6) 0
theorem sc_Conflict_init : FnScope ["self", "chain"] ["self", "chain"] (defScope s_Conflict_init) := ⟨rfl, rfl, rfl, by decide +kernel, rfl, by decide +kernel, by decide +kernel⟩
abbrev s_is_integer : Stmt := topS 22
theorem sc_is_integer : FnScope ["value", "low", "high"] ["value", "low", "high"] (defScope s_is_integer) := ⟨rfl, rfl, rfl, by decide +kernel, rfl, by decide +kernel, by decide +kernel⟩
abbrev s_is_name : Stmt := topS 23
theorem sc_is_name : FnScope ["value", "character"] ["value"] (defScope s_is_name) := ⟨rfl, rfl, rfl, by decide +kernel, rfl, by decide +kernel, by decide +kernel⟩
abbrev s_is_short_name : Stmt := topS 24
theorem sc_is_short_name : FnScope ["value", "character"] ["value"] (defScope s_is_short_name) := ⟨rfl, rfl, rfl, by decide +kernel, rfl, by decide +kernel, by decide +kernel⟩
abbrev s_is_choice_word : Stmt := topS 25
theorem sc_is_choice_word : FnScope ["value", "character"] ["value"] (defScope s_is_choice_word) := ⟨rfl, rfl, rfl, by decide +kernel, rfl, by decide +kernel, by decide +kernel⟩
abbrev s_is_kind : Stmt := topS 26
theorem sc_is_kind : FnScope ["value", "low", "high", "words", "word"] ["value"] (defScope s_is_kind) := ⟨rfl, rfl, rfl, by decide +kernel, rfl, by decide +kernel, by decide +kernel⟩
abbrev s_is_option : Stmt := topS 27
theorem sc_is_option : FnScope ["value", "name", "short_name", "kind"] ["value"] (defScope s_is_option) := ⟨rfl, rfl, rfl, by decide +kernel, rfl, by decide +kernel, by decide +kernel⟩
abbrev s_check_options : Stmt := topS 28
theorem sc_check_options : FnScope ["options", "names", "short_names", "index", "option"] ["options"] (defScope s_check_options) := ⟨rfl, rfl, rfl, by decide +kernel, rfl, by decide +kernel, by decide +kernel⟩
abbrev s_is_clause : Stmt := topS 29
theorem sc_is_clause : FnScope ["names", "clause", "part"] ["names", "clause"] (defScope s_is_clause) := ⟨rfl, rfl, rfl, by decide +kernel, rfl, by decide +kernel, by decide +kernel⟩
abbrev s_check_grammar : Stmt := topS 30
theorem sc_check_grammar : FnScope ["grammar", "options", "positionals", "clauses", "is_pair", "names", "option", "index", "clause"] ["grammar"] (defScope s_check_grammar) := ⟨rfl, rfl, rfl, by decide +kernel, rfl, by decide +kernel, by decide +kernel⟩
abbrev s_names_of : Stmt := topS 31
theorem sc_names_of : FnScope ["grammar", "option"] ["grammar"] (defScope s_names_of) := ⟨rfl, rfl, rfl, by decide +kernel, rfl, by decide +kernel, by decide +kernel⟩
abbrev s_check_names : Stmt := topS 32
theorem sc_check_names : FnScope ["grammar", "names", "known", "name"] ["grammar", "names"] (defScope s_check_names) := ⟨rfl, rfl, rfl, by decide +kernel, rfl, by decide +kernel, by decide +kernel⟩
abbrev s_negate : Stmt := topS 34
theorem sc_negate : FnScope ["literal", "name", "truth"] ["literal"] (defScope s_negate) := ⟨rfl, rfl, rfl, by decide +kernel, rfl, by decide +kernel, by decide +kernel⟩
abbrev s_literals_of : Stmt := topS 35
theorem sc_literals_of : FnScope ["clause", "word", "first", "second"] ["clause"] (defScope s_literals_of) := ⟨rfl, rfl, rfl, by decide +kernel, rfl, by decide +kernel, by decide +kernel⟩
abbrev s_ImplicationGraph_init : Stmt := inClass (topS 36) 0
theorem sc_ImplicationGraph_init : FnScope ["self", "names", "clauses", "edges", "name", "truth", "clause", "left", "right", "literal"] ["self", "names", "clauses"] (defScope s_ImplicationGraph_init) := ⟨rfl, rfl, rfl, by decide +kernel, rfl, by decide +kernel, by decide +kernel⟩
abbrev s_ImplicationGraph_reachable : Stmt := inClass (topS 36) 1
theorem sc_ImplicationGraph_reachable : FnScope ["self", "starts", "reached", "start", "pending", "literal"] ["self", "starts"] (defScope s_ImplicationGraph_reachable) := ⟨rfl, rfl, rfl, by decide +kernel, rfl, by decide +kernel, by decide +kernel⟩
abbrev s_ImplicationGraph_distances_to : Stmt := inClass (topS 36) 2
theorem sc_ImplicationGraph_distances_to : FnScope ["self", "goal", "distances", "level", "following", "literal", "successor", "distance"] ["self", "goal"] (defScope s_ImplicationGraph_distances_to) := ⟨rfl, rfl, rfl, by decide +kernel, rfl, by decide +kernel, by decide +kernel⟩
abbrev s_ImplicationGraph_shortest_chain : Stmt := inClass (topS 36) 3
theorem sc_ImplicationGraph_shortest_chain : FnScope ["self", "start", "goal", "distances", "result", "remaining", "closer", "literal"] ["self", "start", "goal"] (defScope s_ImplicationGraph_shortest_chain) := ⟨rfl, rfl, rfl, by decide +kernel, rfl, by decide +kernel, by decide +kernel⟩
abbrev s_ImplicationGraph_best_chain : Stmt := inClass (topS 36) 4
theorem sc_ImplicationGraph_best_chain : FnScope ["self", "starts", "goal", "chains", "start", "candidates", "chain"] ["self", "starts", "goal"] (defScope s_ImplicationGraph_best_chain) := ⟨rfl, rfl, rfl, by decide +kernel, rfl, by decide +kernel, by decide +kernel⟩
abbrev s_graph_of : Stmt := topS 37
theorem sc_graph_of : FnScope ["grammar"] ["grammar"] (defScope s_graph_of) := ⟨rfl, rfl, rfl, by decide +kernel, rfl, by decide +kernel, by decide +kernel⟩
abbrev s_check_literals : Stmt := topS 38
theorem sc_check_literals : FnScope ["grammar", "literals", "known", "literal", "is_pair"] ["grammar", "literals"] (defScope s_check_literals) := ⟨rfl, rfl, rfl, by decide +kernel, rfl, by decide +kernel, by decide +kernel⟩
abbrev s_consequences : Stmt := topS 39
theorem sc_consequences : FnScope ["grammar", "literals"] ["grammar", "literals"] (defScope s_consequences) := ⟨rfl, rfl, rfl, by decide +kernel, rfl, by decide +kernel, by decide +kernel⟩
abbrev s_find_chain : Stmt := topS 40
theorem sc_find_chain : FnScope ["grammar", "start", "goal"] ["grammar", "start", "goal"] (defScope s_find_chain) := ⟨rfl, rfl, rfl, by decide +kernel, rfl, by decide +kernel, by decide +kernel⟩
abbrev s_find_contradiction : Stmt := topS 42
theorem sc_find_contradiction : FnScope ["grammar", "graph", "name", "there", "back"] ["grammar"] (defScope s_find_contradiction) := ⟨rfl, rfl, rfl, by decide +kernel, rfl, by decide +kernel, by decide +kernel⟩
abbrev s_contradiction : Stmt := topS 43
theorem sc_contradiction : FnScope ["grammar"] ["grammar"] (defScope s_contradiction) := ⟨rfl, rfl, rfl, by decide +kernel, rfl, by decide +kernel, by decide +kernel⟩
abbrev s_check_satisfiable : Stmt := topS 44
theorem sc_check_satisfiable : FnScope ["grammar"] ["grammar"] (defScope s_check_satisfiable) := ⟨rfl, rfl, rfl, by decide +kernel, rfl, by decide +kernel, by decide +kernel⟩
abbrev s_conflict_chain : Stmt := topS 46
theorem sc_conflict_chain : FnScope ["graph", "given", "starts", "name", "chains", "candidates", "chain"] ["graph", "given"] (defScope s_conflict_chain) := ⟨rfl, rfl, rfl, by decide +kernel, rfl, by decide +kernel, by decide +kernel⟩
abbrev s_Completion_init : Stmt := inClass (topS 47) 0
theorem sc_Completion_init : FnScope ["self", "grammar", "given", "chain"] ["self", "grammar", "given"] (defScope s_Completion_init) := ⟨rfl, rfl, rfl, by decide +kernel, rfl, by decide +kernel, by decide +kernel⟩
abbrev s_Completion_chain_for : Stmt := inClass (topS 47) 1
theorem sc_Completion_chain_for : FnScope ["self", "literal", "starts", "name"] ["self", "literal"] (defScope s_Completion_chain_for) := ⟨rfl, rfl, rfl, by decide +kernel, rfl, by decide +kernel, by decide +kernel⟩
abbrev s_Completion_verdict : Stmt := inClass (topS 47) 2
theorem sc_Completion_verdict : FnScope ["self", "name"] ["self", "name"] (defScope s_Completion_verdict) := ⟨rfl, rfl, rfl, by decide +kernel, rfl, by decide +kernel, by decide +kernel⟩
abbrev s_completion_of : Stmt := topS 48
theorem sc_completion_of : FnScope ["grammar", "given"] ["grammar", "given"] (defScope s_completion_of) := ⟨rfl, rfl, rfl, by decide +kernel, rfl, by decide +kernel, by decide +kernel⟩
abbrev s_verdicts : Stmt := topS 49
theorem sc_verdicts : FnScope ["grammar", "given", "completion", "name"] ["grammar", "given"] (defScope s_verdicts) := ⟨rfl, rfl, rfl, by decide +kernel, rfl, by decide +kernel, by decide +kernel⟩
abbrev s_explain_verdict : Stmt := topS 50
theorem sc_explain_verdict : FnScope ["grammar", "given", "name", "completion", "verdict"] ["grammar", "given", "name"] (defScope s_explain_verdict) := ⟨rfl, rfl, rfl, by decide +kernel, rfl, by decide +kernel, by decide +kernel⟩
abbrev s_step_clause : Stmt := topS 52
theorem sc_step_clause : FnScope ["grammar", "left", "right", "clause"] ["grammar", "left", "right"] (defScope s_step_clause) := ⟨rfl, rfl, rfl, by decide +kernel, rfl, by decide +kernel, by decide +kernel⟩
abbrev s_is_literal : Stmt := topS 53
theorem sc_is_literal : FnScope ["grammar", "value"] ["grammar", "value"] (defScope s_is_literal) := ⟨rfl, rfl, rfl, by decide +kernel, rfl, by decide +kernel, by decide +kernel⟩
abbrev s_clauses_of_chain : Stmt := topS 54
theorem sc_clauses_of_chain : FnScope ["grammar", "chain", "result", "index", "clause"] ["grammar", "chain"] (defScope s_clauses_of_chain) := ⟨rfl, rfl, rfl, by decide +kernel, rfl, by decide +kernel, by decide +kernel⟩
abbrev s_check_chain : Stmt := topS 55
theorem sc_check_chain : FnScope ["grammar", "chain"] ["grammar", "chain"] (defScope s_check_chain) := ⟨rfl, rfl, rfl, by decide +kernel, rfl, by decide +kernel, by decide +kernel⟩
abbrev s_judge : Stmt := topS 56
theorem sc_judge : FnScope ["grammar", "given", "name", "chain", "start", "goal"] ["grammar", "given", "name", "chain"] (defScope s_judge) := ⟨rfl, rfl, rfl, by decide +kernel, rfl, by decide +kernel, by decide +kernel⟩
abbrev s_shows_conflict : Stmt := topS 57
theorem sc_shows_conflict : FnScope ["grammar", "given", "chain", "start", "goal"] ["grammar", "given", "chain"] (defScope s_shows_conflict) := ⟨rfl, rfl, rfl, by decide +kernel, rfl, by decide +kernel, by decide +kernel⟩
abbrev s_shows_contradiction : Stmt := topS 58
theorem sc_shows_contradiction : FnScope ["grammar", "chains", "there", "back"] ["grammar", "chains"] (defScope s_shows_contradiction) := ⟨rfl, rfl, rfl, by decide +kernel, rfl, by decide +kernel, by decide +kernel⟩
abbrev s_law_taken : Stmt := topS 60
theorem sc_law_taken : FnScope ["_law_row", "_law_many", "_law_found", "_law_cell"] ["_law_row", "_law_many"] (defScope s_law_taken) := ⟨rfl, rfl, rfl, by decide +kernel, rfl, by decide +kernel, by decide +kernel⟩
abbrev s_law_pick : Stmt := topS 61
theorem sc_law_pick : FnScope ["_law_row", "_law_some"] ["_law_row", "_law_some"] (defScope s_law_pick) := ⟨rfl, rfl, rfl, by decide +kernel, rfl, by decide +kernel, by decide +kernel⟩
abbrev s_law_kind : Stmt := topS 62
theorem sc_law_kind : FnScope ["_law_row", "_law_way", "_law_low"] ["_law_row"] (defScope s_law_kind) := ⟨rfl, rfl, rfl, by decide +kernel, rfl, by decide +kernel, by decide +kernel⟩
abbrev s_law_grammar : Stmt := topS 63
theorem sc_law_grammar : FnScope ["_law_row", "_law_most", "_law_names_here", "_law_letters", "_law_options", "_law_k", "_law_least"] ["_law_row", "_law_most"] (defScope s_law_grammar) := ⟨rfl, rfl, rfl, by decide +kernel, rfl, by decide +kernel, by decide +kernel⟩
abbrev s_law_clauses : Stmt := topS 64
theorem sc_law_clauses : FnScope ["_law_row", "_law_options", "_law_most", "_law_found", "_law_k", "_law_word", "_law_one", "_law_other"] ["_law_row", "_law_options", "_law_most"] (defScope s_law_clauses) := ⟨rfl, rfl, rfl, by decide +kernel, rfl, by decide +kernel, by decide +kernel⟩
abbrev s_law_literals : Stmt := topS 65
theorem sc_law_literals : FnScope ["_law_clause", "_law_word", "_law_one", "_law_other"] ["_law_clause"] (defScope s_law_literals) := ⟨rfl, rfl, rfl, by decide +kernel, rfl, by decide +kernel, by decide +kernel⟩
abbrev s_law_fits : Stmt := topS 66
theorem sc_law_fits : FnScope ["_law_clauses_here", "_law_names_here", "_law_clause", "_law_name", "_law_truth"] ["_law_clauses_here", "_law_names_here"] (defScope s_law_fits) := ⟨rfl, rfl, rfl, by decide +kernel, rfl, by decide +kernel, by decide +kernel⟩
abbrev s_law_subsets : Stmt := topS 67
theorem sc_law_subsets : FnScope ["_law_grammar_here", "_law_found", "_law_name", "_law_option", "_law_some"] ["_law_grammar_here"] (defScope s_law_subsets) := ⟨rfl, rfl, rfl, by decide +kernel, rfl, by decide +kernel, by decide +kernel⟩
abbrev s_law_sets : Stmt := topS 68
theorem sc_law_sets : FnScope ["_law_grammar_here", "_law_some"] ["_law_grammar_here"] (defScope s_law_sets) := ⟨rfl, rfl, rfl, by decide +kernel, rfl, by decide +kernel, by decide +kernel⟩
abbrev s_law_names : Stmt := topS 69
theorem sc_law_names : FnScope ["_law_grammar_here", "_law_option"] ["_law_grammar_here"] (defScope s_law_names) := ⟨rfl, rfl, rfl, by decide +kernel, rfl, by decide +kernel, by decide +kernel⟩
abbrev s_law_given : Stmt := topS 70
theorem sc_law_given : FnScope ["_law_row", "_law_grammar_here", "_law_k"] ["_law_row", "_law_grammar_here"] (defScope s_law_given) := ⟨rfl, rfl, rfl, by decide +kernel, rfl, by decide +kernel, by decide +kernel⟩
abbrev s_law_next_literals : Stmt := topS 71
theorem sc_law_next_literals : FnScope ["_law_grammar_here", "_law_literal", "_law_found", "_law_clause", "_law_one", "_law_other"] ["_law_grammar_here", "_law_literal"] (defScope s_law_next_literals) := ⟨rfl, rfl, rfl, by decide +kernel, rfl, by decide +kernel, by decide +kernel⟩
abbrev s_law_chains : Stmt := topS 72
theorem sc_law_chains : FnScope ["_law_grammar_here", "_law_start", "_law_best_here", "_law_level", "_law_turn", "_law_longer", "_law_chain", "_law_literal"] ["_law_grammar_here", "_law_start"] (defScope s_law_chains) := ⟨rfl, rfl, rfl, by decide +kernel, rfl, by decide +kernel, by decide +kernel⟩
abbrev s_law_best : Stmt := topS 73
theorem sc_law_best : FnScope ["_law_grammar_here", "_law_starts", "_law_goals", "_law_found", "_law_start", "_law_chains_here", "_law_goal"] ["_law_grammar_here", "_law_starts", "_law_goals"] (defScope s_law_best) := ⟨rfl, rfl, rfl, by decide +kernel, rfl, by decide +kernel, by decide +kernel⟩
abbrev s_law_raised : Stmt := topS 74
theorem sc_law_raised : FnScope ["_law_work", "e", "_law_kinds", "_law_at"] ["_law_work"] (defScope s_law_raised) := ⟨rfl, rfl, rfl, by decide +kernel, rfl, by decide +kernel, by decide +kernel⟩
abbrev s_law_contrary : Stmt := topS 75
theorem sc_law_contrary : FnScope ["_law_grammar_here", "_law_names_here", "_law_name", "_law_ways", "_law_k"] ["_law_grammar_here", "_law_names_here"] (defScope s_law_contrary) := ⟨rfl, rfl, rfl, by decide +kernel, rfl, by decide +kernel, by decide +kernel⟩
abbrev s_law : Stmt := topS 76
theorem sc_law : FnScope ["_law_script", "_law_row", "_law_grammar_here", "_law_names_here", "_law_sets_here", "_law_literals_here", "_law_name", "_law_turn", "_law_start", "_law_goal", "_law_chains_here", "_law_steps", "_law_given_here", "_law_starts", "_law_ways", "_law_word", "_law_chain", "_law_found", "_law_told"] ["_law_script"] (defScope s_law) := ⟨rfl, rfl, rfl, by decide +kernel, rfl, by decide +kernel, by decide +kernel⟩
/-- a def of the text -/
structure FnT (K : PySem.W.Frag) (mg : Str → Option Value) (name qual : Str) (st : Stmt) (ps : List Str) where
  a : Addr
  d : FuncData
  F : Fun K name qual st a d
  b : Binds K d ps []
/-- .. at the top -/
structure GlT (K : PySem.W.Frag) (mg : Str → Option Value) (name : Str) (st : Stmt) (ps : List Str) extends FnT K mg name name st ps where
  g : mg name = some (.ref a)
/-- what the top has left of the text -/
structure Txt (K : PySem.W.Frag) (mg : Str → Option Value) where
  z_len : mg "len" = none
  z_isinstance : mg "isinstance" = none
  z_bool : mg "bool" = none
  z_str : mg "str" = none
  z_all : mg "all" = none
  z_sorted : mg "sorted" = none
  z_range : mg "range" = none
  z_enumerate : mg "enumerate" = none
  z_set : mg "set" = none
  z_list : mg "list" = none
  z_tuple : mg "tuple" = none
  z_int : mg "int" = none
  z_min : mg "min" = none
  z_ValueError : mg "ValueError" = none
  Conflict_init : FnT K mg "__init__" "Conflict.__init__" s_Conflict_init ["self", "chain"]
  is_integer : GlT K mg "is_integer" s_is_integer ["value", "low", "high"]
  is_name : GlT K mg "is_name" s_is_name ["value"]
  is_short_name : GlT K mg "is_short_name" s_is_short_name ["value"]
  is_choice_word : GlT K mg "is_choice_word" s_is_choice_word ["value"]
  is_kind : GlT K mg "is_kind" s_is_kind ["value"]
  is_option : GlT K mg "is_option" s_is_option ["value"]
  check_options : GlT K mg "check_options" s_check_options ["options"]
  is_clause : GlT K mg "is_clause" s_is_clause ["names", "clause"]
  check_grammar : GlT K mg "check_grammar" s_check_grammar ["grammar"]
  names_of : GlT K mg "names_of" s_names_of ["grammar"]
  check_names : GlT K mg "check_names" s_check_names ["grammar", "names"]
  negate : GlT K mg "negate" s_negate ["literal"]
  literals_of : GlT K mg "literals_of" s_literals_of ["clause"]
  ImplicationGraph_init : FnT K mg "__init__" "ImplicationGraph.__init__" s_ImplicationGraph_init ["self", "names", "clauses"]
  ImplicationGraph_reachable : FnT K mg "reachable" "ImplicationGraph.reachable" s_ImplicationGraph_reachable ["self", "starts"]
  ImplicationGraph_distances_to : FnT K mg "distances_to" "ImplicationGraph.distances_to" s_ImplicationGraph_distances_to ["self", "goal"]
  ImplicationGraph_shortest_chain : FnT K mg "shortest_chain" "ImplicationGraph.shortest_chain" s_ImplicationGraph_shortest_chain ["self", "start", "goal"]
  ImplicationGraph_best_chain : FnT K mg "best_chain" "ImplicationGraph.best_chain" s_ImplicationGraph_best_chain ["self", "starts", "goal"]
  graph_of : GlT K mg "graph_of" s_graph_of ["grammar"]
  check_literals : GlT K mg "check_literals" s_check_literals ["grammar", "literals"]
  consequences : GlT K mg "consequences" s_consequences ["grammar", "literals"]
  find_chain : GlT K mg "find_chain" s_find_chain ["grammar", "start", "goal"]
  find_contradiction : GlT K mg "find_contradiction" s_find_contradiction ["grammar"]
  contradiction : GlT K mg "contradiction" s_contradiction ["grammar"]
  check_satisfiable : GlT K mg "check_satisfiable" s_check_satisfiable ["grammar"]
  conflict_chain : GlT K mg "conflict_chain" s_conflict_chain ["graph", "given"]
  Completion_init : FnT K mg "__init__" "Completion.__init__" s_Completion_init ["self", "grammar", "given"]
  Completion_chain_for : FnT K mg "chain_for" "Completion.chain_for" s_Completion_chain_for ["self", "literal"]
  Completion_verdict : FnT K mg "verdict" "Completion.verdict" s_Completion_verdict ["self", "name"]
  completion_of : GlT K mg "completion_of" s_completion_of ["grammar", "given"]
  verdicts : GlT K mg "verdicts" s_verdicts ["grammar", "given"]
  explain_verdict : GlT K mg "explain_verdict" s_explain_verdict ["grammar", "given", "name"]
  step_clause : GlT K mg "step_clause" s_step_clause ["grammar", "left", "right"]
  is_literal : GlT K mg "is_literal" s_is_literal ["grammar", "value"]
  clauses_of_chain : GlT K mg "clauses_of_chain" s_clauses_of_chain ["grammar", "chain"]
  check_chain : GlT K mg "check_chain" s_check_chain ["grammar", "chain"]
  judge : GlT K mg "judge" s_judge ["grammar", "given", "name", "chain"]
  shows_conflict : GlT K mg "shows_conflict" s_shows_conflict ["grammar", "given", "chain"]
  shows_contradiction : GlT K mg "shows_contradiction" s_shows_contradiction ["grammar", "chains"]
  law_taken : GlT K mg "_law_taken" s_law_taken ["_law_row", "_law_many"]
  law_pick : GlT K mg "_law_pick" s_law_pick ["_law_row", "_law_some"]
  law_kind : GlT K mg "_law_kind" s_law_kind ["_law_row"]
  law_grammar : GlT K mg "_law_grammar" s_law_grammar ["_law_row", "_law_most"]
  law_clauses : GlT K mg "_law_clauses" s_law_clauses ["_law_row", "_law_options", "_law_most"]
  law_literals : GlT K mg "_law_literals" s_law_literals ["_law_clause"]
  law_fits : GlT K mg "_law_fits" s_law_fits ["_law_clauses_here", "_law_names_here"]
  law_subsets : GlT K mg "_law_subsets" s_law_subsets ["_law_grammar_here"]
  law_sets : GlT K mg "_law_sets" s_law_sets ["_law_grammar_here"]
  law_names : GlT K mg "_law_names" s_law_names ["_law_grammar_here"]
  law_given : GlT K mg "_law_given" s_law_given ["_law_row", "_law_grammar_here"]
  law_next_literals : GlT K mg "_law_next_literals" s_law_next_literals ["_law_grammar_here", "_law_literal"]
  law_chains : GlT K mg "_law_chains" s_law_chains ["_law_grammar_here", "_law_start"]
  law_best : GlT K mg "_law_best" s_law_best ["_law_grammar_here", "_law_starts", "_law_goals"]
  law_raised : GlT K mg "_law_raised" s_law_raised ["_law_work"]
  law_contrary : GlT K mg "_law_contrary" s_law_contrary ["_law_grammar_here", "_law_names_here"]
  law : GlT K mg "law" s_law ["_law_script"]
  C_Conflict : Addr
  gC_Conflict : mg "Conflict" = some (.ref C_Conflict)
  C_ImplicationGraph : Addr
  gC_ImplicationGraph : mg "ImplicationGraph" = some (.ref C_ImplicationGraph)
  cl_ImplicationGraph : Cls K C_ImplicationGraph
  mk_ImplicationGraph : Mk K C_ImplicationGraph ImplicationGraph_init.a
  m_ImplicationGraph_reachable : Meth K C_ImplicationGraph "reachable" ImplicationGraph_reachable.a
  m_ImplicationGraph_distances_to : Meth K C_ImplicationGraph "distances_to" ImplicationGraph_distances_to.a
  m_ImplicationGraph_shortest_chain : Meth K C_ImplicationGraph "shortest_chain" ImplicationGraph_shortest_chain.a
  m_ImplicationGraph_best_chain : Meth K C_ImplicationGraph "best_chain" ImplicationGraph_best_chain.a
  C_Completion : Addr
  gC_Completion : mg "Completion" = some (.ref C_Completion)
  cl_Completion : Cls K C_Completion
  mk_Completion : Mk K C_Completion Completion_init.a
  m_Completion_chain_for : Meth K C_Completion "chain_for" Completion_chain_for.a
  m_Completion_verdict : Meth K C_Completion "verdict" Completion_verdict.a
  n_ImplicationGraph_successors : NoAttr K C_ImplicationGraph "successors"
  n_Completion_graph : NoAttr K C_Completion "graph"
  n_Completion_given : NoAttr K C_Completion "given"
  c_LETTERS : ∃ u, mg "LETTERS" = some u ∧ RelV (.str "abcdefghijklmnopqrstuvwxyz") u
  c_HYPHEN : ∃ u, mg "HYPHEN" = some u ∧ RelV (.str "-") u
  c_MAX_NAME_LENGTH : ∃ u, mg "MAX_NAME_LENGTH" = some u ∧ RelV (.int 12) u
  c_MAX_OPTIONS : ∃ u, mg "MAX_OPTIONS" = some u ∧ RelV (.int 12) u
  c_MAX_CLAUSES : ∃ u, mg "MAX_CLAUSES" = some u ∧ RelV (.int 60) u
  c_MAX_POSITIONALS : ∃ u, mg "MAX_POSITIONALS" = some u ∧ RelV (.int 9) u
  c_MAX_INTEGER : ∃ u, mg "MAX_INTEGER" = some u ∧ RelV (.int 9999) u
  c_MAX_CHOICES : ∃ u, mg "MAX_CHOICES" = some u ∧ RelV (.int 8) u
  c_MAX_WORD_LENGTH : ∃ u, mg "MAX_WORD_LENGTH" = some u ∧ RelV (.int 12) u
  c_CLAUSE_WORDS : ∃ a, mg "CLAUSE_WORDS" = some (.ref a) ∧ ∀ H, SqT K H a [.str "needs", .str "excludes", .str "either"]
end Fc
/-! FcP: grammar.py, the small defs. -/
namespace Fc
open PySem PySem.W PySem.Spec PyProof.Rows L2
theorem boot_all' : bootBuiltins "all" = some (.builtin "all") := by decide +kernel
theorem boot_min' : bootBuiltins "min" = some (.builtin "min") := by decide +kernel
theorem boot_tint : bootBuiltins "int" = some (.type "int") := by decide +kernel
theorem boot_tbool : bootBuiltins "bool" = some (.type "bool") := by decide +kernel
theorem boot_tstr : bootBuiltins "str" = some (.type "str") := by decide +kernel
theorem boot_ttuple : bootBuiltins "tuple" = some (.type "tuple") := by decide +kernel
theorem boot_tlist : bootBuiltins "list" = some (.type "list") := by decide +kernel
section
variable {X : Cx} {pos p : Pos} {ρ ρ1 : Rho} {x : Str} {a : Expr}
/-- a constant of the top -/
theorem d_cst {v : V} {r : Rp} (h : ∃ u, X.mg x = some u ∧ RelV v u) (hr : ∀ B, r.p v B) (hg : Gl X x := by rfl) (hd : (x == ("__debug__" : Str)) = false := by decide) : PE X (.Name x pos) (tE ρ ρ r) := by
  obtain ⟨u, h1, h2⟩ := h
  exact d_glob hr hg h1 h2 hd
theorem d_cstS {z : Str} (h : ∃ u, X.mg x = some u ∧ RelV (.str z) u) (hg : Gl X x := by rfl) (hd : (x == ("__debug__" : Str)) = false := by decide) : PE X (.Name x pos) (tE ρ ρ (dat X.K (.str z))) := d_cst h (fun _ => Dp.str z) hg hd
theorem d_cstI {z : Int} (h : ∃ u, X.mg x = some u ∧ RelV (.int z) u) (hg : Gl X x := by rfl) (hd : (x == ("__debug__" : Str)) = false := by decide) : PE X (.Name x pos) (tE ρ ρ (dat X.K (.int z))) := d_cst h (fun _ => Dp.int z) hg hd
theorem t_w {e : Expr} {k : Bool} (h : PW X e (tT ρ ρ1 k)) : PT X e (tT ρ ρ1 k) := h.pt
theorem t_eq {e : Expr} {k k' : Bool} (h : PT X e (tT ρ ρ1 k)) (q : k = k') : PT X e (tT ρ ρ1 k') := q ▸ h
/-- len(x) -/
theorem d_lenS {z : Str} (zl : X.mg "len" = none) (ha : PE X a (tE ρ ρ1 (dat X.K (.str z)))) (hz : z.length ≤ 1000000) (hg : Gl X "len" := by rfl) (he : starEach [a] X.env = (false, eval a X.env) :: starEach [] X.env := by rfl) : PE X (.Call (.Name "len" p) [a] [] pos) (tE ρ ρ1 (dat X.K (.int z.length))) :=
  d_callB call_len (cld_lenS (small_sz hz)) hg zl PySem.boot_len (a_cons ha a_nil he) (by decide) (by decide) he
theorem d_lenL {ds : List PyData} (zl : X.mg "len" = none) (ha : PE X a (tE ρ ρ1 (dat X.K (.list ds)))) (hg : Gl X "len" := by rfl) (he : starEach [a] X.env = (false, eval a X.env) :: starEach [] X.env := by rfl) : PE X (.Call (.Name "len" p) [a] [] pos) (tE ρ ρ1 (dat X.K (.int ds.length))) :=
  d_callB call_len cld_lenL hg zl PySem.boot_len (a_cons ha a_nil he) (by decide) (by decide) he
theorem d_lenT {ds : List PyData} (zl : X.mg "len" = none) (ha : PE X a (tE ρ ρ1 (dat X.K (.tuple ds)))) (hg : Gl X "len" := by rfl) (he : starEach [a] X.env = (false, eval a X.env) :: starEach [] X.env := by rfl) : PE X (.Call (.Name "len" p) [a] [] pos) (tE ρ ρ1 (dat X.K (.int ds.length))) :=
  d_callB call_len cld_lenT hg zl PySem.boot_len (a_cons ha a_nil he) (by decide) (by decide) he
theorem und_neg {K : PySem.W.Frag} {i : Int} : Und (rU fun i => .int (-i)) (dat K (.int i)) (dat K (.int (-i))) := fun B H x Q s hx q => ⟨i, dp_int hx, q _ B H (Grow.refl s) (Dp.int _)⟩
/-- all(xs) -/
theorem cld_all {K : PySem.W.Frag} {bs : List Bool} : Cld (rAll K) [dat K (.list (bs.map .bool))] (dat K (.bool (bs.all id))) := fun B H vs Q s hv q => by
  cases hv with
  | cons h1 t =>
    cases t
    obtain ⟨a, xs, rfl, h2, h3⟩ := dp_list h1
    have e : ∀ {xs : List V} {bs : List Bool}, DpAll K B xs (bs.map .bool) → xs = bs.map V.bl := by
      intro xs bs
      induction bs generalizing xs with
      | nil => intro h; cases h; rfl
      | cons b bs ih =>
        intro h
        rw [List.map_cons] at h
        cases h with
        | cons a1 t => rw [dp_bl a1, ih t]; rfl
    rw [e h3] at h2
    exact ⟨a, bs, rfl, same_l s h2, q _ B H (Grow.refl s) (Dp.bl _)⟩
theorem d_all {bs : List Bool} (za : X.mg "all" = none) (ha : PE X a (tE ρ ρ1 (dat X.K (.list (bs.map .bool))))) (hc : X.calm = true := by rfl) (hg : Gl X "all" := by rfl) (he : starEach [a] X.env = (false, eval a X.env) :: starEach [] X.env := by rfl) : PE X (.Call (.Name "all" p) [a] [] pos) (tE ρ ρ1 (dat X.K (.bool (bs.all id)))) :=
  d_callB (cr_all hc) cld_all hg za boot_all' (a_cons ha a_nil he) (by decide) (by decide) he
end
section
variable {P : Program} {w : World} {K : PySem.W.Frag} {mg : Str → Option Value} {base : Heap}
/-! ### is_integer -/
abbrev sp_is_integer (K : PySem.W.Frag) : Sp := spI (ι := Int × Int × Int) (fun _ => True) (fun i => [dat K (.int i.1), dat K (.int i.2.1), dat K (.int i.2.2)]) (fun i => dat K (.bool (decide (i.2.1 ≤ i.1) && decide (i.1 ≤ i.2.2))))
theorem ok_is_integer (T : Txt K mg) : FnOk P w K mg base CX0 1 T.is_integer.a T.is_integer.d ["value", "low", "high"] (sp_is_integer K) := by
  refine fn_pure T.is_integer.F sc_is_integer (fun _ => rfl) (fun cdv A outer s H E i hr _ => ?_)
  obtain ⟨v, lo, hi⟩ := i
  refine ⟨_, b_ret (s_ret (d_eq (d_and (d_isi "int" (r := true) T.z_isinstance T.z_int boot_tint (by decide +kernel) (d_var 0))
    (fun _ => d_and (d_not (d_isi "int" (r := false) T.z_isinstance T.z_bool boot_tbool (by decide +kernel) (d_var 0)))
      (fun _ => d_one (d_chain op_le op_le (opd_B0 rfl) (fun _ => opd_B0 rfl) (d_var 1) (d_var 0) (d_var 2))))) ?_)), .inl ⟨_, rfl⟩⟩
  simp
/-! ### is_name -/
/-- what a name's signs are -/
structure NameOk (z : Str) : Prop where
  len : 1 ≤ z.length ∧ z.length ≤ 12
  first : ∃ c, atI z.cps.toList 0 = some c ∧ (⟨#[c]⟩ : Str) ≠ "-"
  last : ∃ c, atI z.cps.toList (-1) = some c ∧ (⟨#[c]⟩ : Str) ≠ "-"
  all : ∀ c ∈ z.cps.toList, c ∈ ("abcdefghijklmnopqrstuvwxyz-" : Str).cps.toList
abbrev sp_is_name (K : PySem.W.Frag) : Sp := spI (ι := Str) NameOk (fun z => [dat K (.str z)]) (fun _ => dat K (.bool true))
theorem ok_is_name (T : Txt K mg) : FnOk P w K mg base CX0 1 T.is_name.a T.is_name.d ["value"] (sp_is_name K) := by
  have nd := sc_is_name.nd
  refine fn_pure T.is_name.F sc_is_name (fun _ => rfl) (fun cdv A outer s H E z hr hz => ?_)
  obtain ⟨c0, f1, f2⟩ := hz.first
  obtain ⟨c1, l1, l2⟩ := hz.last
  have hl := hz.len
  refine ⟨_, b_no (t_w (w_or (k := false) (k' := false) (t_not (k := true) (t_val (d_isi "str" (r := true) T.z_isinstance T.z_str boot_tstr (by decide +kernel) (d_var 0))))
      (fun _ => w_one (t_not (k := true) (t_eq (t_chain op_le op_le (opd_B0 rfl) (fun _ => opd_B0 rfl) d_int (d_lenS T.z_len (d_var 0) (by omega)) (d_cstI T.c_MAX_NAME_LENGTH)) ?h1)) (.inr rfl))))
    (b_no (t_w (w_or (k := false) (k' := false) (t_cmp op_eq (opd_eqS ?h2) (d_ix ix_str (opd_ixS (by rw [sizeLine_eq]; omega) f1) (d_var 0) d_int) (d_cstS T.c_HYPHEN))
      (fun _ => w_one (t_cmp op_eq (opd_eqS ?h3) (d_ix ix_str (opd_ixS (by rw [sizeLine_eq]; omega) l1) (d_var 0) (d_un un_neg (und_neg (i := 1)) d_int)) (d_cstS T.c_HYPHEN)) (.inr rfl))))
    (b_ret (s_ret (d_eq (d_all (bs := z.cps.toList.map fun _ => true) T.z_all (d_eq (d_lcT (lc_one z.cps.toList (fun c => dat K (.str ⟨#[c]⟩)) (fun _ => .bool true) 1 (i_str (d_var 0)) (blkOk_by (N := ["value", "character"]) (sc := defScope s_is_name) (by decide +kernel)) (fun _ _ _ _ _ => pg_name (i := 1) nd rfl (.inl rfl)) rfl ?h4
      (fun c hc _ _ _ _ _ => d_cmp op_in_sign (opd_sign (decide_eq_true (hz.all c hc))) (d_var 1) (d_bin op_add_str (opd_cat ?h7) (d_cstS T.c_LETTERS) (d_cstS T.c_HYPHEN))))) ?h5)) ?h6)))), .inl ⟨_, rfl⟩⟩
  case h1 => simp; omega
  case h2 => simpa using f2
  case h3 => simpa using l2
  case h4 => exact Nat.le_trans (Nat.le_of_eq (by simp [Str.length])) (Nat.le_trans hl.2 (by decide))
  case h5 => rw [filter_tt, List.map_map]; rfl
  case h6 => simp
  case h7 => decide +kernel
/-! ### is_short_name, is_choice_word -/
/-- a text of small letters -/
structure LowOk (z : Str) (n : Nat) : Prop where
  len : z.length ≤ n
  few : n ≤ 1000
  all : ∀ c ∈ z.cps.toList, c ∈ ("abcdefghijklmnopqrstuvwxyz" : Str).cps.toList
abbrev sp_is_short_name (K : PySem.W.Frag) : Sp := spI (ι := Str) (fun z => LowOk z 1) (fun z => [dat K (.str z)]) (fun _ => dat K (.bool true))
theorem ok_is_short_name (T : Txt K mg) : FnOk P w K mg base CX0 1 T.is_short_name.a T.is_short_name.d ["value"] (sp_is_short_name K) := by
  have nd := sc_is_short_name.nd
  refine fn_pure T.is_short_name.F sc_is_short_name (fun _ => rfl) (fun cdv A outer s H E z hr hz => ?_)
  have hl := hz.len
  refine ⟨_, b_ret (s_ret (d_eq (d_and (d_isi "str" (r := true) T.z_isinstance T.z_str boot_tstr (by decide +kernel) (d_var 0)) (fun _ => d_and (k := true) (d_eq (d_cmp op_le (opd_B0 rfl) (d_lenS T.z_len (d_var 0) (by omega)) d_int) ?h1)
    (fun _ => d_one (d_all (bs := z.cps.toList.map fun _ => true) T.z_all (d_eq (d_lcT (lc_one z.cps.toList (fun c => dat K (.str ⟨#[c]⟩)) (fun _ => .bool true) 1 (i_str (d_var 0)) (blkOk_by (N := ["value", "character"]) (sc := defScope s_is_short_name) (by decide +kernel)) (fun _ _ _ _ _ => pg_name (i := 1) nd rfl (.inl rfl)) rfl ?h4
      (fun c hc _ _ _ _ _ => d_cmp op_in_sign (opd_sign (decide_eq_true (hz.all c hc))) (d_var 1) (d_cstS T.c_LETTERS)))) ?h5))))) ?h6)), .inl ⟨_, rfl⟩⟩
  case h1 => simp; omega
  case h4 => exact Nat.le_trans (Nat.le_of_eq (by simp [Str.length])) (Nat.le_trans hl (by decide))
  case h5 => rw [filter_tt, List.map_map]; rfl
  case h6 => simp
abbrev sp_is_choice_word (K : PySem.W.Frag) : Sp := spI (ι := Str) (fun z => LowOk z 12 ∧ 1 ≤ z.length) (fun z => [dat K (.str z)]) (fun _ => dat K (.bool true))
theorem ok_is_choice_word (T : Txt K mg) : FnOk P w K mg base CX0 1 T.is_choice_word.a T.is_choice_word.d ["value"] (sp_is_choice_word K) := by
  have nd := sc_is_choice_word.nd
  refine fn_pure T.is_choice_word.F sc_is_choice_word (fun _ => rfl) (fun cdv A outer s H E z hr hz => ?_)
  obtain ⟨hz, h0⟩ := hz
  have hl := hz.len
  refine ⟨_, b_no (t_w (w_or (k := false) (k' := false) (t_not (k := true) (t_val (d_isi "str" (r := true) T.z_isinstance T.z_str boot_tstr (by decide +kernel) (d_var 0))))
      (fun _ => w_one (t_not (k := true) (t_eq (t_chain op_le op_le (opd_B0 rfl) (fun _ => opd_B0 rfl) d_int (d_lenS T.z_len (d_var 0) (by omega)) (d_cstI T.c_MAX_WORD_LENGTH)) ?h1)) (.inr rfl))))
    (b_ret (s_ret (d_eq (d_all (bs := z.cps.toList.map fun _ => true) T.z_all (d_eq (d_lcT (lc_one z.cps.toList (fun c => dat K (.str ⟨#[c]⟩)) (fun _ => .bool true) 1 (i_str (d_var 0)) (blkOk_by (N := ["value", "character"]) (sc := defScope s_is_choice_word) (by decide +kernel)) (fun _ _ _ _ _ => pg_name (i := 1) nd rfl (.inl rfl)) rfl ?h4
      (fun c hc _ _ _ _ _ => d_cmp op_in_sign (opd_sign (decide_eq_true (hz.all c hc))) (d_var 1) (d_cstS T.c_LETTERS)))) ?h5)) ?h6))), .inl ⟨_, rfl⟩⟩
  case h1 => simp; omega
  case h4 => exact Nat.le_trans (Nat.le_of_eq (by simp [Str.length])) (Nat.le_trans hl (by decide))
  case h5 => rw [filter_tt, List.map_map]; rfl
  case h6 => simp
/-! ### kinds, options, clauses, grammars -/
inductive Kd where
  | none
  | word
  | int (lo hi : Int)
  | ch (ws : List Str)
def kdD : Kd → PyData
  | .none => .none
  | .word => .tuple [.str "word"]
  | .int lo hi => .tuple [.str "int", .int lo, .int hi]
  | .ch ws => .tuple [.str "choice", .tuple (ws.map .str)]
def KdOk : Kd → Prop
  | .none => True
  | .word => True
  | .int lo hi => -9999 ≤ lo ∧ lo ≤ hi ∧ hi ≤ 9999
  | .ch ws => 1 ≤ ws.length ∧ ws.length ≤ 8 ∧ ws.Nodup ∧ ∀ z ∈ ws, LowOk z 12 ∧ 1 ≤ z.length
/-- a call of a def of the top by what is promised -/
theorem d_callT {X : Cx} {ρ ρ1 : Rho} {x : Str} {p pos : Pos} {e : Expr} {es : List Expr} {rs : List Rp} {r : Rp} {k : Nat} {st : Stmt} {ps : List Str} {ι : Type} {pre : ι → Prop} {rsf : ι → List Rp} {rf : ι → Rp} (G : GlT X.K X.mg x st ps) (F : FnOk X.prog X.w X.K X.mg X.base CX0 k G.a G.d ps (spI pre rsf rf)) (i : ι) (hp : pre i) {kk : Nat} (hr : Room kk X.A) (ha : PA X (e :: es) (tAs ρ ρ1 rs))
    (h1 : rsf i = rs := by rfl) (h2 : rf i = r := by rfl) (hkk : k ≤ kk := by decide) (hg : Gl X x := by rfl) (hdb : (x == ("__debug__" : Str)) = false := by decide) (he : starEach (e :: es) X.env = (false, eval e X.env) :: starEach es X.env := by rfl) (hpl : (backTo pos (starEach es X.env)).any (·.1) = false := by rfl) :
    PE X (.Call (.Name x p) (e :: es) [] pos) (tE ρ ρ1 r) := by
  subst h1 h2
  exact d_call F (E := fun _ _ _ => False) (fun vs H Q h => ⟨i, hp, h⟩) (hr.mono hkk) hg G.g G.F.kp G.b pass0 ha hdb he hpl

/-! ### is_kind -/
abbrev sp_is_kind (K : PySem.W.Frag) : Sp := spI (ι := Kd) KdOk (fun k => [dat K (kdD k)]) (fun _ => dat K (.bool true))
theorem depth_strs (ws : List Str) : PyData.depthAll (ws.map .str) = 0 := Nat.le_zero.mp (depthAll_map (α := Str) ws)
theorem plain_strs (ws : List Str) : PyData.plainAll (ws.map .str) = true := plainAll_map (α := Str) ws
theorem pl_kd (k : Kd) : Pl (kdD k) := by
  cases k with
  | none => exact ⟨rfl, by simp [kdD, PyData.depth]⟩
  | word => exact ⟨rfl, by simp [kdD, PyData.depth, PyData.depthAll]⟩
  | int lo hi => exact ⟨rfl, by simp [kdD, PyData.depth, PyData.depthAll]⟩
  | ch ws => exact ⟨by simp [kdD, PyData.plain, PyData.plainAll, plain_strs], by simp [kdD, PyData.depth, PyData.depthAll, depth_strs]⟩
theorem ok_is_kind (T : Txt K mg) : FnOk P w K mg base CX0 2 T.is_kind.a T.is_kind.d ["value"] (sp_is_kind K) := by
  have nd := sc_is_kind.nd
  refine fn_pure T.is_kind.F sc_is_kind (fun _ => rfl) (fun cdv A outer s H E z hr hz => ?_)
  have hu := hr.units
  cases z with
  | none =>
    exact ⟨_, b_ifr (t_w (w_or (k := true) (k' := false) (t_cmp op_isN (opd_isN rfl) (d_var 0) d_non) (fun h => nomatch h))) (fun _ => b_ret (s_ret d_bl)) (fun h => nomatch h), .inl ⟨_, rfl⟩⟩
  | word =>
    exact ⟨_, b_ifr (t_w (w_or (k := false) (k' := true) (t_cmp op_isN (opd_isN rfl) (d_var 0) d_non) (fun _ => w_one (t_cmp (op_eqP hu) (opd_eqP (pl_kd .word) (pl_kd .word) (by decide +kernel)) (d_var 0) (d_tup (ds := [_]) (a_cons d_str a_nil))) (.inr rfl)))) (fun _ => b_ret (s_ret d_bl)) (fun h => nomatch h), .inl ⟨_, rfl⟩⟩
  | int lo hi =>
    obtain ⟨h1, h2, h3⟩ := hz
    refine ⟨_, b_no (t_w (w_or (k := false) (k' := false) (t_cmp op_isN (opd_isN rfl) (d_var 0) d_non) (fun _ => w_one (t_cmp (op_eqP hu) (opd_eqP (pl_kd (.int lo hi)) (pl_kd .word) ?e1) (d_var 0) (d_tup (ds := [_]) (a_cons d_str a_nil))) (.inr rfl))))
      (b_no (t_w (w_or (k := false) (k' := false) (t_not (k := true) (t_val (d_isi "tuple" (r := true) T.z_isinstance T.z_tuple boot_ttuple (by decide +kernel) (d_var 0)))) (fun _ => w_one (t_cmp op_eq (opd_eqI rfl) (d_lenT (ds := [_, _, _]) T.z_len (d_var 0)) d_int) (.inr rfl))))
      (b_ifr (t_w (w_and (k := true) (k' := true) (t_cmp op_eq (opd_eqS ?e2) (d_ix ix_tup (opd_ixT (ds := [.str "int", .int lo, .int hi]) (d := .str "int") rfl) (d_var 0) d_int) d_str) (fun _ => w_one (t_cmp op_eq (opd_eqI rfl) (d_lenT (ds := [_, _, _]) T.z_len (d_var 0)) d_int) (.inl rfl))))
        (fun _ => b_cons (s_asg (d_slFrom (ds := [.str "int", .int lo, .int hi]) (es := [.int lo, .int hi]) (d_var 0) d_int rfl) (pg_tup rfl (pgs_cons (pg_name (i := 1) nd rfl (.inl rfl)) (pgs_cons (pg_name (i := 2) nd rfl (.inl rfl)) pgs_nil))) (tg_two (vs := [1, 2]) (by decide) (by decide)))
          (b_ret (s_ret (d_eq (d_and (d_callT T.is_integer (ok_is_integer T) (lo, -9999, 9999) trivial hr (a_cons (d_var 1) (a_cons (d_un un_neg und_neg (d_cstI T.c_MAX_INTEGER)) (a_cons (d_cstI T.c_MAX_INTEGER) a_nil))))
            (fun _ => d_one (d_callT T.is_integer (ok_is_integer T) (hi, lo, 9999) trivial hr (a_cons (d_var 2) (a_cons (d_var 1) (a_cons (d_cstI T.c_MAX_INTEGER) a_nil)))))) ?e3))))
        (fun h => nomatch h))), .inl ⟨_, rfl⟩⟩
    case e1 => simp [kdD, PyData.eqv, PyData.eqvAll]
    case e2 => decide +kernel
    case e3 => simp; omega
  | ch ws =>
    obtain ⟨h1, h2, h3, h4⟩ := hz
    refine ⟨_, b_no (t_w (w_or (k := false) (k' := false) (t_cmp op_isN (opd_isN rfl) (d_var 0) d_non) (fun _ => w_one (t_cmp (op_eqP hu) (opd_eqP (pl_kd (.ch ws)) (pl_kd .word) ?e1) (d_var 0) (d_tup (ds := [_]) (a_cons d_str a_nil))) (.inr rfl))))
      (b_no (t_w (w_or (k := false) (k' := false) (t_not (k := true) (t_val (d_isi "tuple" (r := true) T.z_isinstance T.z_tuple boot_ttuple (by decide +kernel) (d_var 0)))) (fun _ => w_one (t_cmp op_eq (opd_eqI rfl) (d_lenT (ds := [_, _]) T.z_len (d_var 0)) d_int) (.inr rfl))))
      (b_no (t_w (w_and (k := false) (k' := false) (t_cmp op_eq (opd_eqS ?e2) (d_ix ix_tup (opd_ixT (ds := [.str "choice", .tuple (ws.map .str)]) (d := .str "choice") rfl) (d_var 0) d_int) d_str) (fun h => nomatch h)))
      (b_ifr (t_w (w_and (k := true) (k' := true) (t_cmp op_eq (opd_eqS ?e4) (d_ix ix_tup (opd_ixT (ds := [.str "choice", .tuple (ws.map .str)]) (d := .str "choice") rfl) (d_var 0) d_int) d_str) (fun _ => w_and (k := true) (k' := true) (t_cmp op_eq (opd_eqI rfl) (d_lenT (ds := [_, _]) T.z_len (d_var 0)) d_int)
          (fun _ => w_one (t_val (d_isi (d := .tuple (ws.map .str)) "tuple" (r := true) T.z_isinstance T.z_tuple boot_ttuple (by decide +kernel) (d_ix ix_tup (opd_ixT (ds := [.str "choice", .tuple (ws.map .str)]) (d := .tuple (ws.map .str)) rfl) (d_var 0) d_int))) (.inl rfl)))))
        (fun _ => b_cons (s_set 3 (d_ix ix_tup (opd_ixT (ds := [.str "choice", .tuple (ws.map .str)]) (d := .tuple (ws.map .str)) rfl) (d_var 0) d_int))
          (b_ret (s_ret (d_eq (d_and (d_chain op_le op_le (opd_B0 rfl) (fun _ => opd_B0 rfl) d_int (d_lenT (ds := ws.map .str) T.z_len (d_var 3)) (d_cstI T.c_MAX_CHOICES))
            (fun _ => d_and (d_all (bs := ws.map fun _ => true) T.z_all (d_eq (d_lcT (lc_one ws (fun z => dat K (.str z)) (fun _ => .bool true) 4 (i_tupT (d_var 3)) (blkOk_by (N := ["value", "low", "high", "words", "word"]) (sc := defScope s_is_kind) (by decide +kernel)) (fun _ _ _ _ _ => pg_name (i := 4) nd rfl (.inl rfl)) rfl (by omega)
              (fun z hz _ _ _ _ _ => d_callT T.is_choice_word (ok_is_choice_word T) z (h4 z hz) hr (a_cons (d_var 4) a_nil)))) ?e6))
              (fun _ => d_one (d_cmp op_eq (opd_eqI rfl) (d_lenSetS (ks := ws) T.z_len (d_setS hu T.z_set (d_var 3) (.inr rfl) (by omega)) h3) (d_lenT (ds := ws.map .str) T.z_len (d_var 3)))))) ?e3))))
        (fun h => nomatch h)))), .inl ⟨_, rfl⟩⟩
    case e1 => simp [kdD, PyData.eqv, PyData.eqvAll]
    case e2 => decide +kernel
    case e4 => decide +kernel
    case e6 => rw [filter_tt, List.map_map]; rfl
    case e3 => simp; omega
end
end Fc
/-! FcG: grammar.py: options, clauses, grammars, names. -/
namespace Fc
open PySem PySem.W PySem.Spec PyProof.Rows L2
structure Op where
  name : Str
  sh : Str
  kd : Kd
structure Cl where
  word : Str
  a : Str
  b : Str
structure Gm where
  ops : List Op
  lo : Int
  hi : Int
  cls : List Cl
def opD (o : Op) : PyData := .tuple [.str o.name, .str o.sh, kdD o.kd]
def clD (c : Cl) : PyData := .tuple [.str c.word, .str c.a, .str c.b]
def gmD (g : Gm) : PyData := .tuple [.tuple (g.ops.map opD), .tuple [.int g.lo, .int g.hi], .tuple (g.cls.map clD)]
def Gm.names (g : Gm) : List Str := g.ops.map (·.name)
def OpOk (o : Op) : Prop := NameOk o.name ∧ LowOk o.sh 1 ∧ KdOk o.kd
structure GmOk (g : Gm) : Prop where
  len : 1 ≤ g.ops.length ∧ g.ops.length ≤ 5
  nd : g.names.Nodup
  shd : ((g.ops.filter fun o => !decide (o.sh = ("" : Str))).map (·.sh)).Nodup
  op : ∀ o ∈ g.ops, OpOk o
  pos : 0 ≤ g.lo ∧ g.lo ≤ g.hi ∧ g.hi ≤ 9
  few : g.cls.length ≤ 7
  cl : ∀ c ∈ g.cls, c.word ∈ (["needs", "excludes", "either"] : List Str) ∧ c.a ∈ g.names ∧ c.b ∈ g.names
theorem find_nodup {α β : Type} {f : α → β} {xs : List α} (h : (xs.map f).Nodup) {i j : Nat} {x y : α} (hx : xs[i]? = some x) (hy : xs[j]? = some y) (e : f x = f y) : i = j := by
  have hi := (List.getElem?_eq_some_iff.mp hx)
  have hj := (List.getElem?_eq_some_iff.mp hy)
  obtain ⟨hi, ex⟩ := hi
  obtain ⟨hj, ey⟩ := hj
  refine (List.getElem_inj (h₀ := by rw [List.length_map]; exact hi) (h₁ := by rw [List.length_map]; exact hj) h).mp ?_
  rw [List.getElem_map, List.getElem_map, ex, ey, e]
theorem take_old {α β : Type} {f : α → β} {xs : List α} (h : (xs.map f).Nodup) {i : Nat} {x : α} (hx : xs[i]? = some x) : ∀ y ∈ xs.take i, f y ≠ f x := fun y hy e => by
  obtain ⟨j, hj, ey⟩ := List.getElem_of_mem hy
  rw [List.length_take] at hj
  have hy' : xs[j]? = some y := by
    rw [List.getElem_take] at ey
    rw [List.getElem?_eq_getElem (by omega), ey]
  have := find_nodup h hy' hx e
  omega
theorem take_snoc {α : Type} {xs : List α} {i : Nat} {x : α} (hx : xs[i]? = some x) : xs.take (i + 1) = xs.take i ++ [x] := by
  rw [List.take_add_one, hx]
  rfl
section
variable {P : Program} {w : World} {K : PySem.W.Frag} {mg : Str → Option Value} {base : Heap}
/-! ### is_option -/
abbrev sp_is_option (K : PySem.W.Frag) : Sp := spI (ι := Op) OpOk (fun o => [dat K (opD o)]) (fun _ => dat K (.bool true))
theorem ok_is_option (T : Txt K mg) : FnOk P w K mg base CX0 3 T.is_option.a T.is_option.d ["value"] (sp_is_option K) := by
  have nd := sc_is_option.nd
  refine fn_pure T.is_option.F sc_is_option (fun _ => rfl) (fun cdv A outer s H E o hr ho => ?_)
  obtain ⟨h1, h2, h3⟩ := ho
  refine ⟨_, b_no (t_w (w_or (k := false) (k' := false) (t_not (k := true) (t_val (d_isi "tuple" (r := true) T.z_isinstance T.z_tuple boot_ttuple (by decide +kernel) (d_var 0)))) (fun _ => w_one (t_cmp op_ne (opd_neI rfl) (d_lenT (ds := [_, _, _]) T.z_len (d_var 0)) d_int) (.inr rfl))))
    (b_cons (s_asg (d_var 0) (pg_tup rfl (pgs_cons (pg_name (i := 1) nd rfl (.inl rfl)) (pgs_cons (pg_name (i := 2) nd rfl (.inl rfl)) (pgs_cons (pg_name (i := 3) nd rfl (.inl rfl)) pgs_nil)))) (tg_three (vs := [1, 2, 3]) (by decide) (by decide) (by decide)))
    (b_ret (s_ret (d_eq (d_and (d_callT T.is_name (ok_is_name T) o.name h1 hr (a_cons (d_var 1) a_nil)) (fun _ => d_and (d_callT T.is_short_name (ok_is_short_name T) o.sh h2 hr (a_cons (d_var 2) a_nil)) (fun _ => d_one (d_callT T.is_kind (ok_is_kind T) o.kd h3 hr (a_cons (d_var 3) a_nil))))) rfl)))), .inl ⟨_, rfl⟩⟩
/-! ### check_options -/
abbrev nmK (xs : List Op) : TKv := makeL (fun o => (.inr o.name : Key)) (fun _ => .bool true) xs
abbrev shK (xs : List Op) : TKv := makeL (fun o => (.inr o.sh : Key)) (fun _ => .bool true) (xs.filter fun o => !decide (o.sh = ("" : Str)))
structure OpsOk (xs : List Op) : Prop where
  len : 1 ≤ xs.length ∧ xs.length ≤ 5
  nd : (xs.map (·.name)).Nodup
  shd : ((xs.filter fun o => !decide (o.sh = ("" : Str))).map (·.sh)).Nodup
  op : ∀ o ∈ xs, OpOk o
theorem makeL_len {κ α : Type} [DecidableEq κ] (ky : α → κ) (f : α → PyData) : ∀ xs : List α, (makeL ky f xs).length ≤ xs.length := by
  have key : ∀ (xs : List α) (acc : List (κ × PyData)), (xs.foldl (fun acc a => putD acc (ky a) (f a)) acc).length ≤ acc.length + xs.length := by
    intro xs
    induction xs with
    | nil => intro acc; exact Nat.le_refl _
    | cons x xs ih =>
      intro acc
      have h1 := ih (putD acc (ky x) (f x))
      have h2 := putD_len acc (ky x) (f x)
      rw [List.foldl_cons, List.length_cons]
      omega
  intro xs
  have := key xs []
  rw [List.length_nil] at this
  unfold makeL
  omega
theorem sh_new {xs : List Op} (h : ((xs.filter fun o => !decide (o.sh = ("" : Str))).map (·.sh)).Nodup) {i : Nat} {o : Op} (ho : xs[i]? = some o) : ∀ p ∈ (xs.take i).filter (fun o => !decide (o.sh = ("" : Str))), p.sh ≠ o.sh := fun p hp e => by
  by_cases hs : o.sh = ("" : Str)
  · have := (List.mem_filter.mp hp).2
    rw [e, hs] at this
    simp at this
  · have e1 : xs = xs.take i ++ o :: xs.drop (i + 1) := by
      have hi := (List.getElem?_eq_some_iff.mp ho).1
      have := List.take_append_drop i xs
      rw [List.drop_eq_getElem_cons hi, (List.getElem?_eq_some_iff.mp ho).2] at this
      exact this.symm
    rw [e1, List.filter_append, List.map_append] at h
    have h3 := (List.nodup_append.mp h).2.2
    refine h3 _ (List.mem_map_of_mem hp) o.sh (List.mem_map.mpr ⟨o, List.mem_filter.mpr ⟨List.mem_cons_self, ?_⟩, rfl⟩) e
    simp [hs]
abbrev sp_check_options (K : PySem.W.Frag) : Sp := spI (ι := List Op) OpsOk (fun xs => [dat K (.tuple (xs.map opD))]) (fun _ => dat K .none)
theorem ok_check_options (T : Txt K mg) : FnOk P w K mg base CX0 4 T.check_options.a T.check_options.d ["options"] (sp_check_options K) := by
  have nd := sc_check_options.nd
  refine fn_pure T.check_options.F sc_check_options (fun _ => rfl) (fun cdv A outer s H E xs hr hx => ?_)
  have hu := hu_of hr
  have hlen := hx.len
  let ρs : Nat → Rho := fun i => [.per (dat K (.tuple (xs.map opD))), .own (kdO K (nmK (xs.take i))), .own (kdO K (shK (xs.take i))), .no, .no]
  let ρb : Nat → Rho := fun i => ((ρs i).set 3 (.per (dat K (.int (i : Int))))).set 4 (.per (dat K ((xs[i]?.map opD).getD .none)))
  refine ⟨_, b_no (t_w (w_or (k := false) (k' := false) (t_not (k := true) (t_val (d_isi "tuple" (r := true) T.z_isinstance T.z_tuple boot_ttuple (by decide +kernel) (d_var 0)))) (fun _ => w_one (t_cmp op_eq (opd_eqI ?h1) (d_lenT (ds := xs.map opD) T.z_len (d_var 0)) d_int) (.inr rfl))))
    (b_cons (s_parOO 1 2 n_kd0 n_kd0) (b_one (s_for (vs := [3, 4]) (i_enumT (ds := xs.map opD) T.z_enumerate (d_var 0)) (pg_tup rfl (pgs_cons (pg_name (i := 3) nd rfl (.inl rfl)) (pgs_cons (pg_name (i := 4) nd rfl (.inl rfl)) pgs_nil))) ρs ρb (Sub.refl _) ?ht ?body))), .inr ⟨_, rfl, fun _ => Dp.non⟩⟩
  case h1 => rw [List.length_map]; exact decide_eq_false (by omega)
  case ht =>
    intro i r h
    obtain ⟨d, hd, rfl⟩ := enumR_get h
    rw [List.getElem?_map] at hd
    show Tg _ _ (ρs i) _ (((ρs i).set 3 _).set 4 (.per (dat K ((xs[i]?.map opD).getD .none))))
    rw [hd]
    exact tg_two (by decide) (by decide)
  case body =>
    intro i r h
    obtain ⟨d, hd, rfl⟩ := enumR_get h
    rw [List.getElem?_map] at hd
    obtain ⟨o, ho, rfl⟩ := Option.map_eq_some_iff.mp hd
    have hi := (List.getElem?_eq_some_iff.mp ho).1
    have hop := hx.op o (List.mem_of_getElem? ho)
    have e : ρb i = [.per (dat K (.tuple (xs.map opD))), .own (kdO K (nmK (xs.take i))), .own (kdO K (shK (xs.take i))), .per (dat K (.int (i : Int))), .per (dat K (opD o))] := by
      show ((ρs i).set 3 _).set 4 (.per (dat K ((xs[i]?.map opD).getD .none))) = _
      rw [hd]
      rfl
    rw [e]
    have l1 : (nmK (xs.take i)).length < 1000000 := by have := makeL_len (fun o : Op => (.inr o.name : Key)) (fun _ => .bool true) (xs.take i); rw [List.length_take] at this; show (makeL _ _ _).length < _; omega
    have l2 : (shK (xs.take i)).length < 1000000 := by
      have h1 := makeL_len (fun o : Op => (.inr o.sh : Key)) (fun _ => .bool true) ((xs.take i).filter fun o => !decide (o.sh = ("" : Str)))
      have h2 := List.length_filter_le (fun o : Op => !decide (o.sh = ("" : Str))) (xs.take i)
      rw [List.length_take] at h2
      show (makeL _ _ _).length < _
      omega
    have n1 : valD (nmK (xs.take i)) (.inr o.name) = none := makeL_none _ _ fun p hp e => take_old hx.nd ho p hp (by injection e)
    have n2 : valD (shK (xs.take i)) (.inr o.sh) = none := makeL_none _ _ fun p hp e => sh_new hx.shd ho p hp (by injection e)
    have e1 : nmK (xs.take (i + 1)) = putD (nmK (xs.take i)) (.inr o.name) (.bool true) := by
      show makeL _ _ _ = _
      rw [take_snoc ho, makeL_snoc]
    have e2 : shK (xs.take (i + 1)) = if o.sh = ("" : Str) then shK (xs.take i) else putD (shK (xs.take i)) (.inr o.sh) (.bool true) := by
      show makeL _ _ _ = _
      rw [take_snoc ho, List.filter_append]
      by_cases hs : o.sh = ("" : Str)
      · rw [if_pos hs, List.filter_cons_of_neg (by simp [hs]), List.filter_nil, List.append_nil]
      · rw [if_neg hs, List.filter_cons_of_pos (by simp [hs]), List.filter_nil, makeL_snoc]
    refine ⟨[.per (dat K (.tuple (xs.map opD))), .own (kdO K (nmK (xs.take (i + 1)))), .own (kdO K (shK (xs.take (i + 1)))), .per (dat K (.int (i : Int))), .per (dat K (opD o))], ?main, Sub.cons (Sub.cons (Sub.cons (Sub.drop (Sub.drop Sub.nil))))⟩
    rw [e1, e2]
    refine b_no (t_w (w_or (k := false) (k' := false) (t_cmp op_eq (opd_eqI ?i1) (d_var 3) (d_cstI T.c_MAX_OPTIONS)) (fun _ => w_or (k := false) (k' := false) (t_not (k := true) (t_val (d_callT T.is_option (ok_is_option T) o hop hr (a_cons (d_var 4) a_nil))))
        (fun _ => w_or (k := false) (k' := false) (t_cmpR 1 (op_kdIn hu) (opdR_kdIn (by rw [n1]; rfl)) (d_ix ix_tup (opd_ixT (ds := [.str o.name, .str o.sh, kdD o.kd]) rfl) (d_var 4) d_int))
          (fun _ => w_one (t_cmpR 2 (op_kdIn hu) (opdR_kdIn (by rw [n2]; rfl)) (d_ix ix_tup (opd_ixT (ds := [.str o.name, .str o.sh, kdD o.kd]) rfl) (d_var 4) d_int)) (.inr rfl))))))
      (b_cons (s_put 1 (ps_kd hu) (opdP_kd l1) d_bl (d_ix ix_tup (opd_ixT (ds := [.str o.name, .str o.sh, kdD o.kd]) rfl) (d_var 4) d_int))
        (b_one (s_if (k := !decide (o.sh = ("" : Str))) (t_cmp op_ne (opd_neS rfl) (d_ix ix_tup (opd_ixT (ds := [.str o.name, .str o.sh, kdD o.kd]) rfl) (d_var 4) d_int) d_str)
          (fun hk => ?yes) (fun hk => ?no))))
    case i1 => simp; omega
    case yes =>
      have hs : ¬ o.sh = ("" : Str) := by simpa using hk
      rw [if_neg hs]
      exact b_one (s_put 2 (ps_kd hu) (opdP_kd l2) d_bl (d_ix ix_tup (opd_ixT (ds := [.str o.name, .str o.sh, kdD o.kd]) rfl) (d_var 4) d_int))
    case no =>
      have hs : o.sh = ("" : Str) := by simpa using hk
      rw [if_pos hs]
      exact b_nil
end
end Fc
/-! FcG2: grammar.py: clauses, check_grammar, names; negate, literals_of. -/
namespace Fc
open PySem PySem.W PySem.Spec PyProof.Rows L2
section
variable {P : Program} {w : World} {K : PySem.W.Frag} {mg : Str → Option Value} {base : Heap}
theorem d_words (T : Txt K mg) {X : Cx} {ρ : Rho} {pos : Pos} (hK : X.K = K := by rfl) (hm : X.mg = mg := by rfl) (hg : Gl X "CLAUSE_WORDS" := by rfl) : PE X (.Name "CLAUSE_WORDS" pos) (tE ρ ρ (dat X.K (.tuple ((["needs", "excludes", "either"] : List Str).map .str)))) := by
  subst hK hm
  obtain ⟨a, h1, h2⟩ := T.c_CLAUSE_WORDS
  exact d_glob (v := .ref a) (fun B => Dp.tup (h2 B) (.cons (.str _) (.cons (.str _) (.cons (.str _) .nil)))) hg h1 rfl
/-! ### is_clause -/
structure ClIn (ns : List Str) (c : Cl) : Prop where
  word : c.word ∈ (["needs", "excludes", "either"] : List Str)
  a : c.a ∈ ns
  b : c.b ∈ ns
abbrev sp_is_clause (K : PySem.W.Frag) : Sp := spI (ι := List Str × Cl) (fun i => ClIn i.1 i.2) (fun i => [dat K (.list (i.1.map .str)), dat K (clD i.2)]) (fun _ => dat K (.bool true))
theorem ok_is_clause (T : Txt K mg) : FnOk P w K mg base CX0 1 T.is_clause.a T.is_clause.d ["names", "clause"] (sp_is_clause K) := by
  have nd := sc_is_clause.nd
  refine fn_pure T.is_clause.F sc_is_clause (fun _ => rfl) (fun cdv A outer s H E i hr hi => ?_)
  obtain ⟨ns, c⟩ := i
  obtain ⟨h1, h2, h3⟩ := hi
  refine ⟨_, b_no (t_w (w_or (k := false) (k' := false) (t_not (k := true) (t_val (d_isi "tuple" (r := true) T.z_isinstance T.z_tuple boot_ttuple (by decide +kernel) (d_var 1)))) (fun _ => w_or (k := false) (k' := false) (t_cmp op_ne (opd_neI rfl) (d_lenT (ds := [_, _, _]) T.z_len (d_var 1)) d_int)
      (fun _ => w_one (t_not (k := true) (t_val (d_eq (d_all (bs := [true, true, true]) T.z_all (d_eq (d_lcT (lc_one [c.word, c.a, c.b] (fun z => dat K (.str z)) (fun _ => .bool true) 2 (i_tupT (xs := [c.word, c.a, c.b]) (f := .str) (d_var 1)) (blkOk_by (N := ["names", "clause", "part"]) (sc := defScope s_is_clause) (by decide +kernel)) (fun _ _ _ _ _ => pg_name (i := 2) nd rfl (.inl rfl)) rfl (by show 3 ≤ _; decide)
        (fun z hz _ _ _ _ _ => d_isi "str" (r := true) T.z_isinstance T.z_str boot_tstr (by decide +kernel) (d_var 2)))) rfl)) rfl))) (.inr rfl)))))
    (b_ret (s_ret (d_eq (d_and (d_cmp op_in_seq (opd_inT (decide_eq_true h1)) (d_ix ix_tup (opd_ixT (ds := [.str c.word, .str c.a, .str c.b]) rfl) (d_var 1) d_int) (d_words T))
      (fun _ => d_and (d_cmp op_in_seq (opd_inL (decide_eq_true h2)) (d_ix ix_tup (opd_ixT (ds := [.str c.word, .str c.a, .str c.b]) rfl) (d_var 1) d_int) (d_var 0))
        (fun _ => d_one (d_cmp op_in_seq (opd_inL (decide_eq_true h3)) (d_ix ix_tup (opd_ixT (ds := [.str c.word, .str c.a, .str c.b]) rfl) (d_var 1) d_int) (d_var 0))))) rfl))), .inl ⟨_, rfl⟩⟩
/-! ### check_grammar -/
theorem GmOk.ops {g : Gm} (h : GmOk g) : OpsOk g.ops := ⟨h.len, h.nd, h.shd, h.op⟩
abbrev sp_check_grammar (K : PySem.W.Frag) : Sp := spI (ι := Gm) GmOk (fun g => [dat K (gmD g)]) (fun _ => dat K .none)
theorem ok_check_grammar (T : Txt K mg) : FnOk P w K mg base CX0 5 T.check_grammar.a T.check_grammar.d ["grammar"] (sp_check_grammar K) := by
  have nd := sc_check_grammar.nd
  refine fn_pure T.check_grammar.F sc_check_grammar (fun _ => rfl) (fun cdv A outer s H E g hr hg => ?_)
  obtain ⟨p1, p2, p3⟩ := hg.pos
  let base0 : Rho := [.per (dat K (gmD g)), .per (dat K (.tuple (g.ops.map opD))), .per (dat K (.tuple [.int g.lo, .int g.hi])), .per (dat K (.tuple (g.cls.map clD))), .per (dat K (.bool true)), .per (dat K (.list (g.names.map .str))), .no, .no, .no]
  let ρb : Nat → Rho := fun i => (base0.set 7 (.per (dat K (.int (i : Int))))).set 8 (.per (dat K ((g.cls[i]?.map clD).getD .none)))
  refine ⟨_, b_no (t_w (w_or (k := false) (k' := false) (t_not (k := true) (t_val (d_isi "tuple" (r := true) T.z_isinstance T.z_tuple boot_ttuple (by decide +kernel) (d_var 0)))) (fun _ => w_one (t_cmp op_ne (opd_neI rfl) (d_lenT (ds := [_, _, _]) T.z_len (d_var 0)) d_int) (.inr rfl))))
    (b_cons (s_asg (d_var 0) (pg_tup rfl (pgs_cons (pg_name (i := 1) nd rfl (.inl rfl)) (pgs_cons (pg_name (i := 2) nd rfl (.inl rfl)) (pgs_cons (pg_name (i := 3) nd rfl (.inl rfl)) pgs_nil)))) (tg_three (vs := [1, 2, 3]) (by decide) (by decide) (by decide)))
    (b_cons (s_expr (d_callT T.check_options (ok_check_options T) g.ops hg.ops hr (a_cons (d_var 1) a_nil)))
    (b_cons (s_set 4 (d_eq (d_and (d_isi "tuple" (r := true) T.z_isinstance T.z_tuple boot_ttuple (by decide +kernel) (d_var 2)) (fun _ => d_one (d_cmp op_eq (opd_eqI rfl) (d_lenT (ds := [_, _]) T.z_len (d_var 2)) d_int))) (rfl : _ = PyData.bool true)))
    (b_no (t_w (w_or (k := false) (k' := false) (t_not (k := true) (t_val (d_var 4))) (fun _ => w_one (t_not (k := true) (t_eq (t_val (d_callT T.is_integer (ok_is_integer T) (g.lo, 0, 9) trivial hr (a_cons (d_ix ix_tup (opd_ixT (ds := [.int g.lo, .int g.hi]) rfl) (d_var 2) d_int) (a_cons d_int (a_cons (d_cstI T.c_MAX_POSITIONALS) a_nil))))) ?h1)) (.inr rfl))))
    (b_no (t_not (k := true) (t_eq (t_val (d_callT T.is_integer (ok_is_integer T) (g.hi, g.lo, 9) trivial hr (a_cons (d_ix ix_tup (opd_ixT (ds := [.int g.lo, .int g.hi]) rfl) (d_var 2) d_int) (a_cons (d_ix ix_tup (opd_ixT (ds := [.int g.lo, .int g.hi]) rfl) (d_var 2) d_int) (a_cons (d_cstI T.c_MAX_POSITIONALS) a_nil))))) ?h2))
    (b_no (t_not (k := true) (t_val (d_isi (d := .tuple (g.cls.map clD)) "tuple" (r := true) T.z_isinstance T.z_tuple boot_ttuple (by decide +kernel) (d_var 3))))
    (b_cons (s_lcT 5 (lc_one g.ops (fun o => dat K (opD o)) (fun o => .str o.name) 6 (i_tupT (d_var 1)) (blkOk_by (N := ["grammar", "options", "positionals", "clauses", "is_pair", "names", "option", "index", "clause"]) (sc := defScope s_check_grammar) (by decide +kernel)) (fun _ _ _ _ _ => pg_name (i := 6) nd rfl (.inl rfl)) rfl (by have := hg.len; omega)
      (fun o ho _ _ _ _ _ => d_ix ix_tup (opd_ixT (ds := [.str o.name, .str o.sh, kdD o.kd]) rfl) (d_var 6) d_int)))
    (b_one (s_for (vs := [7, 8]) (i_enumT (ds := g.cls.map clD) T.z_enumerate (d_var 3)) (pg_tup rfl (pgs_cons (pg_name (i := 7) nd rfl (.inl rfl)) (pgs_cons (pg_name (i := 8) nd rfl (.inl rfl)) pgs_nil))) (fun _ => base0) ρb ?h0 ?ht ?body))))))))), .inr ⟨_, rfl, fun _ => Dp.non⟩⟩
  case h1 => simp; omega
  case h2 => simp; omega
  case h0 =>
    have e : (g.ops.filter fun _ => true).map (fun o => PyData.str o.name) = g.names.map PyData.str := by
      rw [filter_tt]
      show _ = (g.ops.map (·.name)).map PyData.str
      rw [List.map_map]
      rfl
    rw [e]
    exact Sub.refl _
  case ht =>
    intro i r h
    obtain ⟨d, hd, rfl⟩ := enumR_get h
    rw [List.getElem?_map] at hd
    show Tg _ _ base0 _ ((base0.set 7 _).set 8 (.per (dat K ((g.cls[i]?.map clD).getD .none))))
    rw [hd]
    exact tg_two (by decide) (by decide)
  case body =>
    intro i r h
    obtain ⟨d, hd, rfl⟩ := enumR_get h
    rw [List.getElem?_map] at hd
    obtain ⟨c, hc, rfl⟩ := Option.map_eq_some_iff.mp hd
    have hi := (List.getElem?_eq_some_iff.mp hc).1
    have hfew := hg.few
    obtain ⟨c1, c2, c3⟩ := hg.cl c (List.mem_of_getElem? hc)
    have e : ρb i = (base0.set 7 (.per (dat K (.int (i : Int))))).set 8 (.per (dat K (clD c))) := by
      show (base0.set 7 _).set 8 (.per (dat K ((g.cls[i]?.map clD).getD .none))) = _
      rw [hd]
      rfl
    rw [e]
    refine ⟨(base0.set 7 (.per (dat K (.int (i : Int))))).set 8 (.per (dat K (clD c))), b_no (t_w (w_or (k := false) (k' := false) (t_cmp op_eq (opd_eqI (i := (i : Int)) (j := 60) (decide_eq_false (by omega))) (d_var 7) (d_cstI T.c_MAX_CLAUSES)) (fun _ => w_one (t_not (k := true) (t_val (d_callT T.is_clause (ok_is_clause T) (g.names, c) ⟨c1, c2, c3⟩ hr (a_cons (d_var 5) (a_cons (d_var 8) a_nil))))) (.inr rfl)))) b_nil, ?_⟩
    exact Sub.cons (Sub.cons (Sub.cons (Sub.cons (Sub.cons (Sub.cons (Sub.cons (Sub.drop (Sub.drop Sub.nil))))))))
/-! ### names_of, check_names -/
abbrev sp_names_of (K : PySem.W.Frag) : Sp := spI (ι := Gm) (fun g => g.ops.length ≤ 5) (fun g => [dat K (gmD g)]) (fun g => dat K (.list (g.names.map .str)))
theorem ok_names_of (T : Txt K mg) : FnOk P w K mg base CX0 1 T.names_of.a T.names_of.d ["grammar"] (sp_names_of K) := by
  have nd := sc_names_of.nd
  refine fn_pure T.names_of.F sc_names_of (fun _ => rfl) (fun cdv A outer s H E g hr hg => ?_)
  refine ⟨_, b_ret (s_ret (d_eq (d_lcT (lc_one g.ops (fun o => dat K (opD o)) (fun o => .str o.name) 1 (i_tupT (d_ix ix_tup (opd_ixT (ds := [.tuple (g.ops.map opD), _, _]) rfl) (d_var 0) d_int)) (blkOk_by (N := ["grammar", "option"]) (sc := defScope s_names_of) (by decide +kernel)) (fun _ _ _ _ _ => pg_name (i := 1) nd rfl (.inl rfl)) rfl (by omega)
      (fun o ho _ _ _ _ _ => d_ix ix_tup (opd_ixT (ds := [.str o.name, .str o.sh, kdD o.kd]) rfl) (d_var 1) d_int))) ?h)), .inl ⟨_, rfl⟩⟩
  case h =>
    rw [filter_tt]
    show _ = PyData.list ((g.ops.map (·.name)).map .str)
    rw [List.map_map]
    rfl
abbrev sp_check_names (K : PySem.W.Frag) : Sp := spI (ι := Gm × List Str) (fun i => i.1.ops.length ≤ 5 ∧ ∀ z ∈ i.2, z ∈ i.1.names) (fun i => [dat K (gmD i.1), dat K (.list (i.2.map .str))]) (fun _ => dat K .none)
theorem ok_check_names (T : Txt K mg) : FnOk P w K mg base CX0 2 T.check_names.a T.check_names.d ["grammar", "names"] (sp_check_names K) := by
  have nd := sc_check_names.nd
  refine fn_pure T.check_names.F sc_check_names (fun _ => rfl) (fun cdv A outer s H E i hr hi => ?_)
  obtain ⟨g, ns⟩ := i
  obtain ⟨h1, h2⟩ := hi
  refine ⟨_, b_cons (s_set 2 (d_callT T.names_of (ok_names_of T) g h1 hr (a_cons (d_var 0) a_nil)))
    (b_one (s_for (vs := [3]) (i_list (ds := ns.map .str) (d_var 1)) (pg_name (i := 3) nd rfl (.inl rfl)) (fun _ => [.per (dat K (gmD g)), .per (dat K (.list (ns.map .str))), .per (dat K (.list (g.names.map .str))), .no]) (fun i => [.per (dat K (gmD g)), .per (dat K (.list (ns.map .str))), .per (dat K (.list (g.names.map .str))), .per (dat K ((ns[i]?.map .str).getD .none))]) (Sub.refl _) ?ht ?body)), .inr ⟨_, rfl, fun _ => Dp.non⟩⟩
  case ht =>
    intro i r h
    obtain ⟨d, hd, rfl⟩ := map_get h
    rw [List.getElem?_map] at hd
    rw [hd]
    exact tg_name (j := 3) (by decide)
  case body =>
    intro i r h
    obtain ⟨d, hd, rfl⟩ := map_get h
    rw [List.getElem?_map] at hd
    obtain ⟨z, hz, rfl⟩ := Option.map_eq_some_iff.mp hd
    rw [hd]
    exact ⟨[.per (dat K (gmD g)), .per (dat K (.list (ns.map .str))), .per (dat K (.list (g.names.map .str))), .per (dat K (.str z))], b_no (t_w (w_or (k := false) (k' := false) (t_not (k := true) (t_val (d_isi "str" (r := true) T.z_isinstance T.z_str boot_tstr (by decide +kernel) (d_var 3)))) (fun _ => w_one (t_cmp op_notIn_seq (opd_notInL (x := z) (xs := g.names) (b := false) (by rw [decide_eq_true (h2 z (List.mem_of_getElem? hz))]; rfl)) (d_var 3) (d_var 2)) (.inr rfl)))) b_nil, Sub.cons (Sub.cons (Sub.cons (Sub.drop Sub.nil)))⟩
/-! ### negate, literals_of -/
def neg (l : Lt) : Lt := (l.1, !l.2)
abbrev sp_negate (K : PySem.W.Frag) : Sp := spI (ι := Lt) (fun _ => True) (fun l => [dat K (litD l)]) (fun l => dat K (litD (neg l)))
theorem ok_negate (T : Txt K mg) : FnOk P w K mg base CX0 1 T.negate.a T.negate.d ["literal"] (sp_negate K) := by
  have nd := sc_negate.nd
  refine fn_pure T.negate.F sc_negate (fun _ => rfl) (fun cdv A outer s H E i hr _ => ?_)
  exact ⟨_, b_cons (s_asg (d_var 0) (pg_tup rfl (pgs_cons (pg_name (i := 1) nd rfl (.inl rfl)) (pgs_cons (pg_name (i := 2) nd rfl (.inl rfl)) pgs_nil))) (tg_two (vs := [1, 2]) (by decide) (by decide)))
    (b_ret (s_ret (d_tup (ds := [_, _]) (a_cons (d_var 1) (a_cons (d_not (d_var 2)) a_nil))))), .inl ⟨_, rfl⟩⟩
/-- the two literals of a clause -/
def litsOf (c : Cl) : Lt × Lt := if c.word = "needs" then ((c.a, false), (c.b, true)) else ((c.a, decide (c.word = "either")), (c.b, decide (c.word = "either")))
def prD (p : Lt × Lt) : PyData := .tuple [litD p.1, litD p.2]
abbrev sp_literals_of (K : PySem.W.Frag) : Sp := spI (ι := Cl) (fun _ => True) (fun c => [dat K (clD c)]) (fun c => dat K (prD (litsOf c)))
theorem ok_literals_of (T : Txt K mg) : FnOk P w K mg base CX0 1 T.literals_of.a T.literals_of.d ["clause"] (sp_literals_of K) := by
  have nd := sc_literals_of.nd
  refine fn_pure T.literals_of.F sc_literals_of (fun _ => rfl) (fun cdv A outer s H E c hr _ => ?_)
  refine ⟨_, b_cons (s_asg (d_var 0) (pg_tup rfl (pgs_cons (pg_name (i := 1) nd rfl (.inl rfl)) (pgs_cons (pg_name (i := 2) nd rfl (.inl rfl)) (pgs_cons (pg_name (i := 3) nd rfl (.inl rfl)) pgs_nil)))) (tg_three (vs := [1, 2, 3]) (by decide) (by decide) (by decide)))
    (b_ifr (k := decide (c.word = "needs")) (t_cmp op_eq (opd_eqS rfl) (d_var 1) d_str)
      (fun hk => b_ret (s_ret (d_eq (d_tup (ds := [_, _]) (a_cons (d_tup (ds := [_, _]) (a_cons (d_var 2) (a_cons d_bl a_nil))) (a_cons (d_tup (ds := [_, _]) (a_cons (d_var 3) (a_cons d_bl a_nil))) a_nil))) ?yes)))
      (fun hk => b_ret (s_ret (d_eq (d_tup (ds := [_, _]) (a_cons (d_tup (ds := [_, _]) (a_cons (d_var 2) (a_cons (d_cmp op_eq (opd_eqS rfl) (d_var 1) d_str) a_nil))) (a_cons (d_tup (ds := [_, _]) (a_cons (d_var 3) (a_cons (d_cmp op_eq (opd_eqS rfl) (d_var 1) d_str) a_nil))) a_nil))) ?no)))), .inl ⟨_, rfl⟩⟩
  case yes =>
    have e : litsOf c = ((c.a, false), (c.b, true)) := if_pos (of_decide_eq_true hk)
    rw [e]
    rfl
  case no =>
    have e : litsOf c = ((c.a, decide (c.word = "either")), (c.b, decide (c.word = "either"))) := if_neg (of_decide_eq_false hk)
    rw [e]
    rfl
end
end Fc
/-! FcH: implications.py: the graph's mirror; what an instance of ImplicationGraph is. -/
namespace Fc
open PySem PySem.W PySem.Spec PyProof.Rows L2
/-- each once -/
def dd {α : Type} [DecidableEq α] : List α → List α
  | [] => []
  | a :: r => if a ∈ dd r then dd r else a :: dd r
theorem dd_mem {α : Type} [DecidableEq α] {a : α} : ∀ {l : List α}, a ∈ dd l ↔ a ∈ l
  | [] => Iff.rfl
  | b :: r => by
    unfold dd
    have ih := dd_mem (a := a) (l := r)
    split
    · rename_i h
      rw [ih, List.mem_cons]
      refine ⟨.inr, fun z => ?_⟩
      rcases z with rfl | z
      · exact dd_mem.mp h
      · exact z
    · rw [List.mem_cons, List.mem_cons, ih]
theorem dd_nodup {α : Type} [DecidableEq α] : ∀ l : List α, (dd l).Nodup
  | [] => List.nodup_nil
  | a :: r => by
    unfold dd
    split
    · exact dd_nodup r
    · rename_i h
      exact List.nodup_cons.mpr ⟨h, dd_nodup r⟩
theorem dd_len {α : Type} [DecidableEq α] : ∀ l : List α, (dd l).length ≤ l.length
  | [] => Nat.le_refl _
  | a :: r => by
    unfold dd
    have := dd_len r
    split
    · rw [List.length_cons]; omega
    · rw [List.length_cons, List.length_cons]; omega
/-- what clause c makes follow from l -/
def tg1 (l : Lt) (c : Cl) : List Lt := (if neg (litsOf c).1 = l then [(litsOf c).2] else []) ++ if neg (litsOf c).2 = l then [(litsOf c).1] else []
def tgts (g : Gm) (l : Lt) : List Lt := g.cls.flatMap (tg1 l)
/-- the successors, sorted -/
def succ (g : Gm) (l : Lt) : List Lt := sortT (dd (tgts g l))
def lits (g : Gm) : List Lt := g.names.flatMap fun n => [(n, false), (n, true)]
def succL (g : Gm) : List (Lt × PyData) := (lits g).map fun l => (l, .list ((succ g l).map litD))
theorem lits_mem {g : Gm} {l : Lt} : l ∈ lits g ↔ l.1 ∈ g.names := by
  unfold lits
  rw [List.mem_flatMap]
  refine ⟨fun ⟨n, h1, h2⟩ => ?_, fun h => ⟨l.1, h, ?_⟩⟩
  · rcases List.mem_cons.mp h2 with rfl | h2
    · exact h1
    · rw [List.mem_singleton.mp h2]; exact h1
  · obtain ⟨n, b⟩ := l
    cases b <;> simp
theorem valD_map {κ : Type} [DecidableEq κ] (f : κ → PyData) : ∀ {ks : List κ} {k : κ}, k ∈ ks → valD (ks.map fun k => (k, f k)) k = some (f k)
  | a :: ks, k, h => by
    rw [List.map_cons, valD_cons]
    by_cases e : a = k
    · rw [if_pos e, e]
    · rw [if_neg e]
      exact valD_map f ((List.mem_cons.mp h).resolve_left fun z => e z.symm)
theorem succL_val {g : Gm} {l : Lt} (h : l.1 ∈ g.names) : valD (succL g) l = some (.list ((succ g l).map litD)) := valD_map (fun l => .list ((succ g l).map litD)) (lits_mem.mpr h)
theorem succ_mem {g : Gm} {l k : Lt} : k ∈ succ g l ↔ k ∈ tgts g l := sortT_mem.trans dd_mem
theorem neg_neg (l : Lt) : neg (neg l) = l := by
  obtain ⟨n, b⟩ := l
  simp [neg]
theorem tgts_mem {g : Gm} {l k : Lt} : k ∈ tgts g l ↔ ∃ c ∈ g.cls, (neg (litsOf c).1 = l ∧ (litsOf c).2 = k) ∨ (neg (litsOf c).2 = l ∧ (litsOf c).1 = k) := by
  unfold tgts tg1
  rw [List.mem_flatMap]
  refine exists_congr fun c => and_congr_right fun _ => ?_
  rw [List.mem_append]
  refine or_congr ?_ ?_
  · split
    · rename_i h; rw [List.mem_singleton]; exact ⟨fun e => ⟨h, e.symm⟩, fun e => e.2.symm⟩
    · rename_i h; exact ⟨fun e => (nomatch e), fun e => absurd e.1 h⟩
  · split
    · rename_i h; rw [List.mem_singleton]; exact ⟨fun e => ⟨h, e.symm⟩, fun e => e.2.symm⟩
    · rename_i h; exact ⟨fun e => (nomatch e), fun e => absurd e.1 h⟩
theorem litsOf_names {c : Cl} {ns : List Str} (h : c.a ∈ ns ∧ c.b ∈ ns) : (litsOf c).1.1 ∈ ns ∧ (litsOf c).2.1 ∈ ns := by
  unfold litsOf
  split
  · exact h
  · exact h
theorem succ_names {g : Gm} (hg : GmOk g) {l k : Lt} (h : k ∈ succ g l) : k.1 ∈ g.names := by
  obtain ⟨c, hc, h | h⟩ := tgts_mem.mp (succ_mem.mp h)
  · rw [← h.2]; exact (litsOf_names (hg.cl c hc).2).2
  · rw [← h.2]; exact (litsOf_names (hg.cl c hc).2).1
theorem succ_len {g : Gm} (hg : GmOk g) (l : Lt) : (succ g l).length ≤ 14 := by
  unfold succ
  rw [(sortT_perm _).length_eq]
  refine Nat.le_trans (dd_len _) ?_
  have key : ∀ cs : List Cl, (cs.flatMap (tg1 l)).length ≤ 2 * cs.length := by
    intro cs
    induction cs with
    | nil => exact Nat.le_refl _
    | cons c cs ih =>
      rw [List.flatMap_cons, List.length_append, List.length_cons]
      have : (tg1 l c).length ≤ 2 := by
        unfold tg1
        split <;> split <;> simp
      omega
  have := key g.cls
  have := hg.few
  unfold tgts
  omega
/-- an instance of ImplicationGraph -/
def grR (P : Program) (w : World) (K : PySem.W.Frag) (C : Addr) (g : Gm) : Rp where
  p := fun v B => ∃ a dx u, v = .ref a ∧ B a = some (.ins C dx [(("successors" : Str), u)]) ∧ (ldR P w K (succL g)).p u B
  mono := fun s ⟨a, dx, u, e, h, hr⟩ => ⟨a, dx, u, e, s _ _ h, (ldR P w K (succL g)).mono s hr⟩
section
variable {P : Program} {w : World} {K : PySem.W.Frag} {C : Addr} {g : Gm}
theorem gr_fld : FldOf K C "successors" (grR P w K C g) (ldR P w K (succL g)) := fun v B ⟨a, dx, u, e, h, hr⟩ => ⟨a, dx, _, u, e, h, by rfl, hr⟩
theorem gr_ins {m : Str} (hm : (m == ("successors" : Str)) = false) : IsIns C m (grR P w K C g) := fun v B ⟨a, dx, u, e, h, hr⟩ => ⟨a, dx, _, e, h, by rw [List.lookup_cons, hm]; rfl⟩
end
end Fc
/-! FcRe: ImplicationGraph.reachable. -/
namespace Fc
open PySem PySem.W PySem.Spec PyProof.Rows L2
/-! ### rounds -/
def itr {σ : Type} (f : σ → σ) : Nat → σ → σ
  | 0, s => s
  | n + 1, s => f (itr f n s)
theorem itr_succ {σ : Type} (f : σ → σ) : ∀ (n : Nat) (s : σ), itr f n (f s) = itr f (n + 1) s
  | 0, _ => rfl
  | n + 1, s => congrArg f (itr_succ f n s)
theorem itr_stop {σ : Type} (f : σ → σ) (stop : σ → Prop) [DecidablePred stop] (inv : σ → Prop) (μ : σ → Nat) (step : ∀ s, inv s → ¬ stop s → inv (f s) ∧ μ (f s) < μ s) : ∀ (n : Nat) (s : σ), μ s ≤ n → inv s → ∃ m, m ≤ n ∧ stop (itr f m s) ∧ (∀ i, i < m → ¬ stop (itr f i s)) ∧ ∀ i, i ≤ m → inv (itr f i s) := by
  intro n
  induction n with
  | zero =>
    intro s h hi
    by_cases hs : stop s
    · exact ⟨0, Nat.le_refl _, hs, fun i h => absurd h (Nat.not_lt_zero _), fun i h => by rw [Nat.le_zero.mp h]; exact hi⟩
    · have := (step s hi hs).2
      omega
  | succ n ih =>
    intro s h hi
    by_cases hs : stop s
    · exact ⟨0, Nat.zero_le _, hs, fun i h => absurd h (Nat.not_lt_zero _), fun i h => by rw [Nat.le_zero.mp h]; exact hi⟩
    · obtain ⟨h1, h2⟩ := step s hi hs
      obtain ⟨m, m0, m1, m2, m3⟩ := ih (f s) (by omega) h1
      refine ⟨m + 1, by omega, by rw [← itr_succ]; exact m1, fun i hlt => ?_, fun i hle => ?_⟩
      · cases i with
        | zero => exact hs
        | succ i => rw [← itr_succ]; exact m2 i (by omega)
      · cases i with
        | zero => exact hi
        | succ i => rw [← itr_succ]; exact m3 i (by omega)
/-- the first at which p -/
noncomputable def firstM (p : Nat → Prop) : Nat := Classical.epsilon fun m => p m ∧ ∀ i, i < m → ¬ p i
theorem firstM_eq {p : Nat → Prop} {m : Nat} (h : p m) (k : ∀ i, i < m → ¬ p i) : firstM p = m := by
  obtain ⟨h1, h2⟩ := Classical.epsilon_spec (p := fun m => p m ∧ ∀ i, i < m → ¬ p i) ⟨m, h, k⟩
  rcases Nat.lt_trichotomy (firstM p) m with c | c | c
  · exact absurd h1 (k _ c)
  · exact c
  · exact absurd h (h2 _ c)
/-! ### the mirror -/
abbrev RSt := List Lt × List Lt
def insR (s : RSt) (k : Lt) : RSt := if k ∈ s.1 then s else (s.1 ++ [k], s.2 ++ [k])
def stepR (g : Gm) (s : RSt) : RSt := match s.2.getLast? with
  | none => s
  | some l => (succ g l).foldl insR (s.1, s.2.dropLast)
def tKs (ks : List Lt) : List (Lt × PyData) := ks.map fun k => (k, .bool true)
theorem tKs_val {ks : List Lt} {k : Lt} : (valD (tKs ks) k).isSome = decide (k ∈ ks) := by
  rw [Bool.eq_iff_iff, valD_isSome, decide_eq_true_eq]
  unfold tKs
  rw [List.map_map]
  show k ∈ ks.map id ↔ _
  rw [List.map_id]
theorem tKs_new {ks : List Lt} {k : Lt} (h : k ∉ ks) : putD (tKs ks) k (.bool true) = tKs (ks ++ [k]) := by
  rw [putD_new]
  · unfold tKs
    rw [List.map_append]
    rfl
  · rw [valD_none]
    unfold tKs
    rw [List.map_map]
    show ¬ k ∈ ks.map id
    rw [List.map_id]
    exact h
structure RInv (g : Gm) (s : RSt) : Prop where
  nd : s.1.Nodup
  nm : ∀ k ∈ s.1, k.1 ∈ g.names
  sub : ∀ k ∈ s.2, k ∈ s.1
  few : s.2.length ≤ s.1.length
theorem lits_len (g : Gm) : (lits g).length = 2 * g.ops.length := by
  have key : ∀ ns : List Str, (ns.flatMap fun n => [(n, false), (n, true)]).length = 2 * ns.length := by
    intro ns
    induction ns with
    | nil => rfl
    | cons n ns ih =>
      rw [List.flatMap_cons, List.length_append, ih]
      show 2 + 2 * ns.length = 2 * (ns.length + 1)
      omega
  unfold lits
  rw [key]
  unfold Gm.names
  rw [List.length_map]
theorem nodup_le {α : Type} [DecidableEq α] : ∀ {l m : List α}, l.Nodup → (∀ x ∈ l, x ∈ m) → l.length ≤ m.length
  | [], _, _, _ => Nat.zero_le _
  | a :: l, m, h, s => by
    obtain ⟨h1, h2⟩ := List.nodup_cons.mp h
    have ha := s a List.mem_cons_self
    have := nodup_le (m := m.erase a) h2 fun x hx => (List.mem_erase_of_ne fun e => h1 (by rw [← e]; exact hx)).mpr (s x (List.mem_cons_of_mem _ hx))
    rw [List.length_erase_of_mem ha] at this
    have := List.length_pos_of_mem ha
    rw [List.length_cons]
    omega
theorem RInv.le {g : Gm} {s : RSt} (h : RInv g s) : s.1.length ≤ 2 * g.ops.length := by
  rw [← lits_len]
  exact nodup_le h.nd fun k hk => lits_mem.mpr (h.nm k hk)
theorem insR_inv {g : Gm} {s : RSt} {k : Lt} (h : RInv g s) (hk : k.1 ∈ g.names) : RInv g (insR s k) ∧ (insR s k).1.length + s.2.length = s.1.length + (insR s k).2.length := by
  unfold insR
  split
  · exact ⟨h, rfl⟩
  · rename_i hn
    refine ⟨⟨?_, ?_, ?_, ?_⟩, ?_⟩
    · exact List.nodup_append.mpr ⟨h.nd, by simp, fun x hx y hy e => hn (by rw [List.mem_singleton.mp hy] at e; exact e ▸ hx)⟩
    · intro x hx
      rcases List.mem_append.mp hx with hx | hx
      · exact h.nm x hx
      · rw [List.mem_singleton.mp hx]; exact hk
    · intro x hx
      rcases List.mem_append.mp hx with hx | hx
      · exact List.mem_append_left _ (h.sub x hx)
      · exact List.mem_append_right _ hx
    · have := h.few
      rw [List.length_append, List.length_append]
      show _ + 1 ≤ _ + 1
      omega
    · rw [List.length_append, List.length_append]
      show _ + 1 + _ = _ + (_ + 1)
      omega
theorem foldR_inv {g : Gm} : ∀ (xs : List Lt) {s : RSt}, RInv g s → (∀ k ∈ xs, k.1 ∈ g.names) → RInv g (xs.foldl insR s) ∧ (xs.foldl insR s).1.length + s.2.length = s.1.length + (xs.foldl insR s).2.length ∧ s.1.length ≤ (xs.foldl insR s).1.length
  | [], s, h, _ => ⟨h, rfl, Nat.le_refl _⟩
  | k :: xs, s, h, hk => by
    obtain ⟨h1, h2⟩ := insR_inv h (hk k List.mem_cons_self)
    obtain ⟨h3, h4, h5⟩ := foldR_inv xs h1 fun x hx => hk x (List.mem_cons_of_mem _ hx)
    have h6 : s.1.length ≤ (insR s k).1.length := by
      unfold insR
      split
      · exact Nat.le_refl _
      · rw [List.length_append]; omega
    rw [List.foldl_cons]
    exact ⟨h3, by omega, by omega⟩
theorem popR {g : Gm} {s : RSt} (h : RInv g s) : RInv g (s.1, s.2.dropLast) := ⟨h.nd, h.nm, fun k hk => h.sub k (List.dropLast_subset _ hk), by have := h.few; show s.2.dropLast.length ≤ s.1.length; rw [List.length_dropLast]; omega⟩
theorem stepR_inv {g : Gm} (hg : GmOk g) {s : RSt} (h : RInv g s) (hn : ¬ s.2 = []) : RInv g (stepR g s) ∧ 2 * (2 * g.ops.length - (stepR g s).1.length) + (stepR g s).2.length < 2 * (2 * g.ops.length - s.1.length) + s.2.length := by
  obtain ⟨l, hl⟩ : ∃ l, s.2.getLast? = some l := by
    cases e : s.2.getLast? with
    | none => exact absurd (List.getLast?_eq_none_iff.mp e) hn
    | some l => exact ⟨l, rfl⟩
  unfold stepR
  rw [hl]
  obtain ⟨h1, h2, h3⟩ := foldR_inv (succ g l) (popR h) fun k hk => succ_names hg hk
  dsimp only at h2 h3
  have := h1.le
  have h5 : s.2.length ≠ 0 := fun z => hn (List.length_eq_zero_iff.mp z)
  have h6 : s.2.dropLast.length = s.2.length - 1 := List.length_dropLast
  refine ⟨h1, ?_⟩
  show 2 * (2 * g.ops.length - (List.foldl insR (s.1, s.2.dropLast) (succ g l)).1.length) + (List.foldl insR (s.1, s.2.dropLast) (succ g l)).2.length < _
  omega
/-- what reachable returns -/
noncomputable def reachF (g : Gm) (a : Lt) : List Lt := (itr (stepR g) (firstM fun m => (itr (stepR g) m ([a], [a])).2 = []) ([a], [a])).1
section
variable {P : Program} {w : World} {K : PySem.W.Frag} {mg : Str → Option Value} {base : Heap}
abbrev sp_reachable (P : Program) (w : World) (K : PySem.W.Frag) (C : Addr) : Sp := spI (ι := Gm × Lt) (fun i => GmOk i.1 ∧ i.2.1 ∈ i.1.names) (fun i => [grR P w K C i.1, dat K (.list ([i.2].map litD))]) (fun i => ldR P w K (tKs (reachF i.1 i.2)))
theorem ok_reachable (T : Txt K mg) : FnOk P w K mg base CX0 1 T.ImplicationGraph_reachable.a T.ImplicationGraph_reachable.d ["self", "starts"] (sp_reachable P w K T.C_ImplicationGraph) := by
  have nd := sc_ImplicationGraph_reachable.nd
  refine fn_pure T.ImplicationGraph_reachable.F sc_ImplicationGraph_reachable (fun _ => rfl) (fun cdv A outer s H E i hr hi => ?_)
  obtain ⟨g, a⟩ := i
  obtain ⟨hg, ha⟩ := hi
  have hu := hu_of hr
  have hu64 := hr.units
  obtain ⟨m, m0, m1, m2, m3⟩ := itr_stop (stepR g) (fun s => s.2 = []) (RInv g) (fun s => 2 * (2 * g.ops.length - s.1.length) + s.2.length) (fun s h hs => stepR_inv hg h hs) _ ([a], [a]) (Nat.le_refl _) ⟨by simp, by simpa using ha, by simp, Nat.le_refl _⟩
  let st : RSt → Rho := fun s => [.per (grR P w K T.C_ImplicationGraph g), .per (dat K (.list ([a].map litD))), .own (ldO P w K (tKs s.1)), .no, .own (lstO K (s.2.map litD)), .no]
  have hlen : 1 ≤ g.ops.length ∧ g.ops.length ≤ 5 := GmOk.len hg
  refine ⟨.rt (ldR P w K (tKs (reachF g a))) [.per (grR P w K T.C_ImplicationGraph g), .per (dat K (.list ([a].map litD))), .per (ldR P w K (tKs (itr (stepR g) m ([a], [a])).1)), .no, .own (lstO K ((itr (stepR g) m ([a], [a])).2.map litD)), .no],
    b_cons (s_dlT 2 (dl_one [a] (fun l => dat K (litD l)) (fun l => litD l) (fun _ => .bool true) 3 (i_listT (d_var 1)) (blkOk_by (N := ["self", "starts", "reached", "start", "pending", "literal"]) (sc := defScope s_ImplicationGraph_reachable) (by decide +kernel)) (fun _ _ _ _ _ => pg_name (i := 3) nd rfl (.inl rfl)) rfl (by show 1 ≤ _; decide)
        (fun l _ _ _ _ _ _ => d_var 3) (fun l _ _ _ _ _ _ => d_bl)) hr.units0)
    (b_cons (s_new 4 (n_listO 2 T.z_list))
    (b_cons (s_while m (fun i => st (itr (stepR g) i ([a], [a]))) (Sub.refl _) ?test ?body)
      (b_rep (r := ldR P w K (tKs (itr (stepR g) m ([a], [a])).1)) (b_ret (s_ret (e_share 2 (sh_ld P w K) (d_var 2)))) (fun v B h => by rw [reachF, firstM_eq m1 m2]; exact h)))), ?out⟩
  case out => exact .inl ⟨_, rfl⟩
  case test =>
    intro i hi
    have e : (!PyData.eqv (.list ((itr (stepR g) i ([a], [a])).2.map litD)) (.list [])) = decide (i < m) := by
      have h1 : PyData.eqv (.list ((itr (stepR g) i ([a], [a])).2.map litD)) (.list []) = decide ((itr (stepR g) i ([a], [a])).2 = []) := Datum.eqv (α := List Lt) _ []
      rw [h1]
      by_cases hm : i < m
      · rw [decide_eq_true hm, decide_eq_false (m2 i hm)]
        rfl
      · obtain rfl : i = m := by omega
        rw [decide_eq_false hm, decide_eq_true m1]
        rfl
    exact t_cmpL 4 (op_neP hu64) (opdO_neP (plT (α := List Lt) _) (plT (α := List Lt) []) e) (d_lst (ds := []) a_nil)
  case body =>
    intro i hi
    have inv := m3 i (by omega)
    show ∃ ρ', PSs _ _ (tS (st (itr (stepR g) i ([a], [a]))) (.nx ρ')) ∧ Sub ρ' (st (stepR g (itr (stepR g) i ([a], [a]))))
    have hne := m2 i hi
    generalize itr (stepR g) i ([a], [a]) = s0 at inv hne ⊢
    obtain ⟨l, hl⟩ : ∃ l, s0.2.getLast? = some l := by
      cases e : s0.2.getLast? with
      | none => exact absurd (List.getLast?_eq_none_iff.mp e) hne
      | some l => exact ⟨l, rfl⟩
    have hln : l.1 ∈ g.names := inv.nm l (inv.sub l (List.mem_of_getLast? hl))
    let sj : Nat → RSt := fun j => ((succ g l).take j).foldl insR (s0.1, s0.2.dropLast)
    have invj : ∀ j, RInv g (sj j) := fun j => (foldR_inv _ (popR inv) fun k hk => succ_names hg (List.mem_of_mem_take hk)).1
    have efin : sj (succ g l).length = stepR g s0 := by
      show ((succ g l).take _).foldl insR _ = _
      rw [List.take_length]
      unfold stepR
      rw [hl]
    refine ⟨st (stepR g s0), b_one ?_, Sub.refl _⟩
    rw [← efin, show (succ g l).length = ((succ g l).map fun l => dat K (litD l)).length by rw [List.length_map]]
    refine s_for (vs := [5]) (i_listT (d_ix (ix_ld hu) (opd_ldGet (l := l) (succL_val hln)) (d_fld gr_fld T.cl_ImplicationGraph T.n_ImplicationGraph_successors (d_var 0)) (d_pop 4 ?hl))) (pg_name (i := 5) nd rfl (.inl rfl)) (fun j => st (sj j)) (fun j => (st (sj j)).set 5 (.per (dat K (((succ g l)[j]?.map litD).getD .none)))) ?h0 ?ht ?body2
    case hl => rw [List.getLast?_map, hl]; rfl
    case h0 =>
      show Sub ((st s0).set 4 (.own (lstO K (s0.2.map litD).dropLast))) (st (s0.1, s0.2.dropLast))
      rw [← List.map_dropLast]
      exact Sub.refl _
    case ht =>
      intro j r h
      obtain ⟨k, hk, _, rfl⟩ := get_map h
      dsimp only
      rw [hk]
      exact tg_name (by decide)
    case body2 =>
      intro j r h
      obtain ⟨k, hk, _, rfl⟩ := get_map h
      try dsimp only
      rw [hk]
      have ej : sj (j + 1) = insR (sj j) k := by
        show ((succ g l).take (j + 1)).foldl insR _ = insR (((succ g l).take j).foldl insR _) k
        rw [take_snoc hk, List.foldl_append]
        rfl
      rw [ej]
      have ij := invj j
      generalize sj j = q at ij ⊢
      have hz1 := ij.le
      have hz2 := ij.few
      have hz : (tKs q.1).length < 1000000 := by unfold tKs; rw [List.length_map]; omega
      have hz' : (q.2.map litD).length < 1000000 := by rw [List.length_map]; omega
      refine ⟨(st (insR q k)).set 5 (.per (dat K (litD k))), b_one (s_if (k := !decide (k ∈ q.1)) (t_cmpR 2 (op_ldNotIn hu) (opdR_ldIn (neg := true) (by rw [tKs_val]; rfl)) (d_var 5)) (fun hk => ?yes) (fun hk => ?no)), ?sub⟩
      case yes =>
        have hn : k ∉ q.1 := by simpa using hk
        have e1 : insR q k = (q.1 ++ [k], q.2 ++ [k]) := if_neg hn
        rw [e1]
        have e2 : st (q.1 ++ [k], q.2 ++ [k]) = [.per (grR P w K T.C_ImplicationGraph g), .per (dat K (.list ([a].map litD))), .own (ldO P w K (putD (tKs q.1) k (.bool true))), .no, .own (lstO K (q.2.map litD ++ [litD k])), .no] := by
          show [_, _, Sl.own (ldO P w K (tKs (q.1 ++ [k]))), _, Sl.own (lstO K ((q.2 ++ [k]).map litD)), _] = _
          rw [← tKs_new hn, List.map_append]
          rfl
        rw [e2]
        exact b_cons (s_put 2 (ps_ld hu) (opdP_ld hz) d_bl (d_var 5)) (b_one (s_expr (d_app 4 (d_var 5) hz')))
      case no =>
        have hn : k ∈ q.1 := by simpa using hk
        have e1 : insR q k = q := if_pos hn
        rw [e1]
        exact b_nil
      case sub => exact Sub.unset rfl
end
end Fc
/-! FcDi: ImplicationGraph.distances_to. -/
namespace Fc
open PySem PySem.W PySem.Spec PyProof.Rows L2
abbrev DL := List (Lt × Nat)
/-- the distances and what follows; n: the round -/
def insN (n : Nat) (s : DL × List Lt) (k : Lt) : DL × List Lt := if k ∈ s.1.map (·.1) then s else (s.1 ++ [(k, n + 1)], s.2 ++ [k])
structure DSt where
  D : DL
  L : List Lt
  n : Nat
def roundN (g : Gm) (s : DSt) : DSt := ⟨((s.L.flatMap (succ g)).foldl (insN s.n) (s.D, [])).1, ((s.L.flatMap (succ g)).foldl (insN s.n) (s.D, [])).2, s.n + 1⟩
def dSt0 (goal : Lt) : DSt := ⟨[(neg goal, 0)], [neg goal], 0⟩
def tD (D : DL) : List (Lt × PyData) := D.map fun p => (p.1, .int (p.2 : Int))
theorem tD_keys (D : DL) : (tD D).map (·.1) = D.map (·.1) := by
  unfold tD
  rw [List.map_map]
  rfl
theorem tD_in {D : DL} {k : Lt} : (valD (tD D) k).isSome = decide (k ∈ D.map (·.1)) := by
  rw [Bool.eq_iff_iff, valD_isSome, decide_eq_true_eq, tD_keys]
theorem tD_new {D : DL} {k : Lt} {n : Nat} (h : k ∉ D.map (·.1)) : putD (tD D) k (.int (n : Int)) = tD (D ++ [(k, n)]) := by
  rw [putD_new]
  · unfold tD
    rw [List.map_append]
    rfl
  · rw [valD_none, tD_keys]
    exact h
theorem tD_app {D E : DL} {k : Lt} {d : PyData} (h : valD (tD D) k = some d) : valD (tD (D ++ E)) k = some d := by
  unfold tD
  rw [List.map_append, valD_app]
  unfold tD at h
  rw [h]
  rfl
/-- what holds between the turns of a round -/
structure NInv (g : Gm) (n : Nat) (D0 : DL) (s : DL × List Lt) : Prop where
  nd : (s.1.map (·.1)).Nodup
  nm : ∀ k ∈ s.1.map (·.1), k.1 ∈ g.names
  ext : ∃ E, s.1 = D0 ++ E
  val : ∀ l ∈ s.2, valD (tD s.1) l = some (.int ((n + 1 : Nat) : Int))
  len : s.1.length = D0.length + s.2.length
theorem insN_inv {g : Gm} {n : Nat} {D0 : DL} {s : DL × List Lt} {k : Lt} (h : NInv g n D0 s) (hk : k.1 ∈ g.names) : NInv g n D0 (insN n s k) := by
  unfold insN
  split
  · exact h
  · rename_i hn
    obtain ⟨E, hE⟩ := h.ext
    refine ⟨?_, ?_, ⟨E ++ [(k, n + 1)], ?_⟩, ?_, ?_⟩
    · rw [List.map_append]
      exact List.nodup_append.mpr ⟨h.nd, by simp, fun x hx y hy e => hn (by
        have hy' : y = k := by simpa using hy
        rw [← hy', ← e]
        exact hx)⟩
    · intro x hx
      rw [List.map_append] at hx
      rcases List.mem_append.mp hx with hx | hx
      · exact h.nm x hx
      · have : x = k := by simpa using hx
        rw [this]; exact hk
    · show s.1 ++ _ = _
      rw [hE, List.append_assoc]
    · intro l hl
      rcases List.mem_append.mp hl with hl | hl
      · exact tD_app (h.val l hl)
      · rw [List.mem_singleton.mp hl]
        show valD (tD (s.1 ++ [(k, n + 1)])) k = _
        rw [← tD_new hn, valD_put, if_pos rfl]
    · have := h.len
      show (s.1 ++ _).length = D0.length + (s.2 ++ _).length
      rw [List.length_append, List.length_append, List.length_singleton, List.length_singleton]
      omega
theorem foldN_inv {g : Gm} {n : Nat} {D0 : DL} : ∀ (xs : List Lt) {s : DL × List Lt}, NInv g n D0 s → (∀ k ∈ xs, k.1 ∈ g.names) → NInv g n D0 (xs.foldl (insN n) s)
  | [], _, h, _ => h
  | k :: xs, s, h, hk => foldN_inv xs (insN_inv h (hk k List.mem_cons_self)) fun x hx => hk x (List.mem_cons_of_mem _ hx)
structure DInv (g : Gm) (s : DSt) : Prop where
  nd : (s.D.map (·.1)).Nodup
  nm : ∀ k ∈ s.D.map (·.1), k.1 ∈ g.names
  val : ∀ l ∈ s.L, valD (tD s.D) l = some (.int (s.n : Int))
  few : s.L.length ≤ s.D.length
theorem DInv.start {g : Gm} {s : DSt} (h : DInv g s) : NInv g s.n s.D (s.D, []) := ⟨h.nd, h.nm, ⟨[], (List.append_nil _).symm⟩, fun _ hl => (nomatch hl), rfl⟩
theorem DInv.lname {g : Gm} {s : DSt} (h : DInv g s) {l : Lt} (hl : l ∈ s.L) : l.1 ∈ g.names := h.nm l (by
  have := h.val l hl
  have h2 : (valD (tD s.D) l).isSome = true := by rw [this]; rfl
  rw [tD_in, decide_eq_true_eq] at h2
  exact h2)
theorem flat_names {g : Gm} (hg : GmOk g) (L : List Lt) : ∀ k ∈ L.flatMap (succ g), k.1 ∈ g.names := fun k hk => by
  obtain ⟨l, _, h⟩ := List.mem_flatMap.mp hk
  exact succ_names hg h
theorem DInv.le {g : Gm} {s : DSt} (h : DInv g s) : s.D.length ≤ 2 * g.ops.length := by
  rw [← lits_len]
  have := nodup_le h.nd fun k hk => lits_mem.mpr (h.nm k hk)
  rw [List.length_map] at this
  exact this
theorem NInv.le {g : Gm} {n : Nat} {D0 : DL} {s : DL × List Lt} (h : NInv g n D0 s) : s.1.length ≤ 2 * g.ops.length := by
  rw [← lits_len]
  have := nodup_le h.nd fun k hk => lits_mem.mpr (h.nm k hk)
  rw [List.length_map] at this
  exact this
theorem round_inv {g : Gm} (hg : GmOk g) {s : DSt} (h : DInv g s) (hn : ¬ s.L = []) : DInv g (roundN g s) ∧ 2 * (2 * g.ops.length - (roundN g s).D.length) + (roundN g s).L.length < 2 * (2 * g.ops.length - s.D.length) + s.L.length := by
  have k := foldN_inv (s.L.flatMap (succ g)) h.start (flat_names hg s.L)
  have k1 := k.len
  have k2 := k.le
  have h5 : s.L.length ≠ 0 := fun z => hn (List.length_eq_zero_iff.mp z)
  refine ⟨⟨k.nd, k.nm, k.val, by show ((s.L.flatMap (succ g)).foldl (insN s.n) (s.D, [])).2.length ≤ ((s.L.flatMap (succ g)).foldl (insN s.n) (s.D, [])).1.length; omega⟩, ?_⟩
  show 2 * (2 * g.ops.length - ((s.L.flatMap (succ g)).foldl (insN s.n) (s.D, [])).1.length) + ((s.L.flatMap (succ g)).foldl (insN s.n) (s.D, [])).2.length < _
  omega
theorem dSt0_inv {g : Gm} {goal : Lt} (h : goal.1 ∈ g.names) : DInv g (dSt0 goal) := ⟨by simp [dSt0], by simpa [dSt0, neg] using h, fun l hl => by
  have : l = neg goal := by simpa [dSt0] using hl
  rw [this]
  show valD (tD [(neg goal, 0)]) (neg goal) = _
  unfold tD
  rw [List.map_cons, valD_cons, if_pos rfl]
  rfl, Nat.le_refl _⟩
/-- the distances to goal, by the literals themselves -/
def distTo (D : DL) : List (Lt × PyData) := D.map fun p => (neg p.1, .int (p.2 : Int))
noncomputable def distD (g : Gm) (goal : Lt) : DL := (itr (roundN g) (firstM fun m => (itr (roundN g) m (dSt0 goal)).L = []) (dSt0 goal)).D
noncomputable abbrev distF (g : Gm) (goal : Lt) : List (Lt × PyData) := distTo (distD g goal)
theorem neg_inj {a b : Lt} (h : neg a = neg b) : a = b := by rw [← neg_neg a, h, neg_neg]
theorem i_liT {X : Cx} {ρ ρ1 : Rho} {e : Expr} {α : Type} {xs : List α} {ky : α → Lt} {f : α → PyData} {elts : List Expr} {kk : Nat} {tpos apos cpos : Pos} (h : PE X e (tE ρ ρ1 (ldR X.prog X.w X.K (xs.map fun a => (ky a, f a))))) (hbase : attributeBase e "items" X.env (eval e X.env) = eval e X.env := by rfl) (hline : (apos.endLine == cpos.line) = true := by rfl) :
    PI X (.Tuple elts kk tpos) (.Call (.Attribute e "items" apos) [] [] cpos) (iD ρ ρ1 (xs.map fun a => dat X.K (.tuple [litD (ky a), f a]))) := by
  have := i_li (elts := elts) (kk := kk) (tpos := tpos) h hbase hline
  rw [List.map_map] at this
  exact this
section
variable {P : Program} {w : World} {K : PySem.W.Frag} {mg : Str → Option Value} {base : Heap}
abbrev sp_distances_to (P : Program) (w : World) (K : PySem.W.Frag) (C : Addr) : Sp := spI (ι := Gm × Lt) (fun i => GmOk i.1 ∧ i.2.1 ∈ i.1.names) (fun i => [grR P w K C i.1, dat K (litD i.2)]) (fun i => ldR P w K (distF i.1 i.2))
theorem ok_distances_to (T : Txt K mg) : FnOk P w K mg base CX0 2 T.ImplicationGraph_distances_to.a T.ImplicationGraph_distances_to.d ["self", "goal"] (sp_distances_to P w K T.C_ImplicationGraph) := by
  have nd := sc_ImplicationGraph_distances_to.nd
  refine fn_pure T.ImplicationGraph_distances_to.F sc_ImplicationGraph_distances_to (fun _ => rfl) (fun cdv A outer s H E i hr hi => ?_)
  obtain ⟨g, goal⟩ := i
  obtain ⟨hg, ha⟩ := hi
  have hu := hu_of hr
  have hu64 := hr.units
  have hlen : 1 ≤ g.ops.length ∧ g.ops.length ≤ 5 := GmOk.len hg
  obtain ⟨m, m0, m1, m2, m3⟩ := itr_stop (roundN g) (fun s => s.L = []) (DInv g) (fun s => 2 * (2 * g.ops.length - s.D.length) + s.L.length) (fun s h hs => round_inv hg h hs) _ (dSt0 goal) (Nat.le_refl _) (dSt0_inv ha)
  let st : DSt → Rho := fun s => [.per (grR P w K T.C_ImplicationGraph g), .per (dat K (litD goal)), .own (ldO P w K (tD s.D)), .per (dat K (.list (s.L.map litD))), .no, .no, .no, .no]
  let so : List Lt → (DL × List Lt) → Rho := fun L s => [.per (grR P w K T.C_ImplicationGraph g), .per (dat K (litD goal)), .own (ldO P w K (tD s.1)), .per (dat K (.list (L.map litD))), .own (lstO K (s.2.map litD)), .no, .no, .no]
  have fin := (m3 m (Nat.le_refl _))
  let sm := itr (roundN g) m (dSt0 goal)
  let ρm : Rho := [.per (grR P w K T.C_ImplicationGraph g), .per (dat K (litD goal)), .per (ldR P w K (tD sm.D)), .per (dat K (.list (sm.L.map litD))), .no, .no, .no, .no]
  refine ⟨.rt (ldR P w K (distF g goal)) ρm,
    b_cons (s_parOP 2 3 (n_ld1 hu (d_callT T.negate (ok_negate T) goal trivial hr (a_cons (d_var 1) a_nil)) d_int) (d_lst (ds := [litD (neg goal)]) (a_cons (d_callT T.negate (ok_negate T) goal trivial hr (a_cons (d_var 1) a_nil)) a_nil)))
    (b_cons (s_while m (fun i => st (itr (roundN g) i (dSt0 goal))) (Sub.refl _) ?test ?body)
      (b_share 2 (sh_ld P w K) (b_rep (r := ldR P w K (distTo sm.D)) (b_ret (s_ret (d_share (n_dlT (xs := sm.D) (ρ0 := ρm) (rd := fun p => dat K (.tuple [litD p.1, .int (p.2 : Int)])) (ρb := fun p => (ρm.set 5 (.per (dat K (litD p.1)))).set 7 (.per (dat K (.int (p.2 : Int))))) (ky := fun p => neg p.1) (f := fun p => .int (p.2 : Int)) (own := [("literal", 5), ("distance", 7)]) (g := gTup K 2 (gCons (gName 5) (gCons (gName 7) gNil))) ?dl hr.units0) ?shr))) (fun v B h => by rw [distF, distD, firstM_eq m1 m2]; exact h)))), .inl ⟨_, rfl⟩⟩
  case shr =>
    have e : makeL (fun p : Lt × Nat => neg p.1) (fun p => .int (p.2 : Int)) sm.D = distTo sm.D := makeL_map _ _ (by
      have : sm.D.map (fun p => neg p.1) = (sm.D.map (·.1)).map neg := by rw [List.map_map]; rfl
      rw [this]
      exact map_nodup (fun a b h => neg_inj h) fin.nd)
    rw [e]
    exact sh_ld P w K
  case dl =>
    refine ⟨i_liT (xs := sm.D) (ky := (·.1)) (f := fun p => .int (p.2 : Int)) (d_var 2), blkOk_by (N := ["self", "goal", "distances", "level", "following", "literal", "successor", "distance"]) (sc := defScope s_ImplicationGraph_distances_to) (by decide +kernel), fun _ _ _ _ _ => pg_tup rfl (pgs_cons (pg_name (i := 5) nd rfl (.inl rfl)) (pgs_cons (pg_name (i := 7) nd rfl (.inl rfl)) pgs_nil)), NoAt.cons rfl (NoAt.cons rfl NoAt.nil), fun p _ => tg_two (by decide) (by decide), fun p _ => ?_, fun p hp _ _ _ _ _ => d_callT T.negate (ok_negate T) p.1 trivial hr (a_cons (d_var 5) a_nil), fun p hp _ _ _ _ _ => d_var 7, by have h1 : sm.D.length ≤ 2 * g.ops.length := fin.le; omega⟩
    exact Sub.cons (Sub.cons (Sub.cons (Sub.cons (Sub.cons (Sub.drop (Sub.cons (Sub.drop Sub.nil)))))))
  case test =>
    intro i hi
    have e : (!PyData.eqv (.list ((itr (roundN g) i (dSt0 goal)).L.map litD)) (.list [])) = decide (i < m) := by
      have h1 : PyData.eqv (.list ((itr (roundN g) i (dSt0 goal)).L.map litD)) (.list []) = decide ((itr (roundN g) i (dSt0 goal)).L = []) := Datum.eqv (α := List Lt) _ []
      rw [h1]
      by_cases hm : i < m
      · rw [decide_eq_true hm, decide_eq_false (m2 i hm)]
        rfl
      · obtain rfl : i = m := by omega
        rw [decide_eq_false hm, decide_eq_true m1]
        rfl
    exact t_cmp (op_neP hu64) (opd_neP (plT (α := List Lt) _) (plT (α := List Lt) []) e) (d_var 3) (d_lst (ds := []) a_nil)
  case body =>
    intro i hi
    have inv := m3 i (by omega)
    show ∃ ρ', PSs _ _ (tS (st (itr (roundN g) i (dSt0 goal))) (.nx ρ')) ∧ Sub ρ' (st (roundN g (itr (roundN g) i (dSt0 goal))))
    generalize itr (roundN g) i (dSt0 goal) = s0 at inv ⊢
    let Fo : Nat → DL × List Lt := fun i => ((s0.L.take i).flatMap (succ g)).foldl (insN s0.n) (s0.D, [])
    have io : ∀ i, NInv g s0.n s0.D (Fo i) := fun i => foldN_inv _ inv.start (flat_names hg _)
    have eo : Fo s0.L.length = ((roundN g s0).D, (roundN g s0).L) := by
      show ((s0.L.take _).flatMap (succ g)).foldl _ _ = _
      rw [List.take_length]
      rfl
    refine ⟨[.per (grR P w K T.C_ImplicationGraph g), .per (dat K (litD goal)), .own (ldO P w K (tD (roundN g s0).D)), .per (dat K (.list ((roundN g s0).L.map litD))), .per (dat K (.list ((roundN g s0).L.map litD))), .no, .no, .no],
      b_cons (s_new 4 (n_lst (ds := []) a_nil)) (b_cons (s_for (vs := [5]) (i_listT (xs := s0.L) (f := litD) (d_var 3)) (pg_name (i := 5) nd rfl (.inl rfl)) (fun i => so s0.L (Fo i)) (fun i => (so s0.L (Fo i)).set 5 (.per (dat K ((s0.L[i]?.map litD).getD .none)))) (Sub.refl _) ?ht ?outer) ?last), ?sub⟩
    case sub => exact Sub.cons (Sub.cons (Sub.cons (Sub.cons (Sub.drop (Sub.cons (Sub.cons (Sub.cons Sub.nil)))))))
    case last =>
      rw [List.length_map]
      show PSs _ _ (tS (so s0.L (Fo s0.L.length)) _)
      rw [eo]
      exact b_share 4 sh_lst (b_one (s_set 3 (d_var 4)))
    case ht =>
      intro i r h
      obtain ⟨l, hl, _, rfl⟩ := get_map h
      try dsimp only
      rw [hl]
      exact tg_name (by decide)
    case outer =>
      intro i r h
      obtain ⟨l, hl, hlm, rfl⟩ := get_map h
      try dsimp only
      rw [hl]
      have hln : l.1 ∈ g.names := inv.lname hlm
      let Fi : Nat → DL × List Lt := fun j => ((succ g l).take j).foldl (insN s0.n) (Fo i)
      have ii : ∀ j, NInv g s0.n s0.D (Fi j) := fun j => foldN_inv _ (io i) fun k hk => succ_names hg (List.mem_of_mem_take hk)
      have ei : Fi (succ g l).length = Fo (i + 1) := by
        show ((succ g l).take _).foldl _ _ = ((s0.L.take (i + 1)).flatMap (succ g)).foldl _ _
        rw [List.take_length, take_snoc hl, List.flatMap_append, List.foldl_append, List.flatMap_singleton]
      refine ⟨(so s0.L (Fo (i + 1))).set 5 (.per (dat K (litD l))), b_one ?_, Sub.unset rfl⟩
      rw [← ei, show (succ g l).length = ((succ g l).map fun l => dat K (litD l)).length by rw [List.length_map]]
      refine s_for (vs := [6]) (i_listT (d_ix (ix_ld hu) (opd_ldGet (l := l) (succL_val hln)) (d_fld gr_fld T.cl_ImplicationGraph T.n_ImplicationGraph_successors (d_var 0)) (d_var 5))) (pg_name (i := 6) nd rfl (.inl rfl)) (fun j => (so s0.L (Fi j)).set 5 (.per (dat K (litD l)))) (fun j => ((so s0.L (Fi j)).set 5 (.per (dat K (litD l)))).set 6 (.per (dat K (((succ g l)[j]?.map litD).getD .none)))) (Sub.refl _) ?ht2 ?inner
      case ht2 =>
        intro j r h
        obtain ⟨k, hk, _, rfl⟩ := get_map h
        try dsimp only
        rw [hk]
        exact tg_name (by decide)
      case inner =>
        intro j r h
        obtain ⟨k, hk, _, rfl⟩ := get_map h
        try dsimp only
        rw [hk]
        have ej : Fi (j + 1) = insN s0.n (Fi j) k := by
          show ((succ g l).take (j + 1)).foldl _ _ = insN _ (((succ g l).take j).foldl _ _) k
          rw [take_snoc hk, List.foldl_append]
          rfl
        rw [ej]
        have ij := ii j
        generalize Fi j = q at ij ⊢
        have hz1 := ij.le
        have hz2 := ij.len
        have hz : (tD q.1).length < 1000000 := by unfold tD; rw [List.length_map]; omega
        have hz' : (q.2.map litD).length < 1000000 := by rw [List.length_map]; omega
        have hv : valD (tD q.1) l = some (.int (s0.n : Int)) := by
          obtain ⟨E, hE⟩ := ij.ext
          rw [hE]
          exact tD_app (inv.val l hlm)
        refine ⟨((so s0.L (insN s0.n q k)).set 5 (.per (dat K (litD l)))).set 6 (.per (dat K (litD k))), b_one (s_if (k := !decide (k ∈ q.1.map (·.1))) (t_cmpR 2 (op_ldNotIn hu) (opdR_ldIn (neg := true) (by rw [tD_in]; rfl)) (d_var 6)) (fun hk => ?yes) (fun hk => ?no)), ?sub2⟩
        case yes =>
          have hn : k ∉ q.1.map (·.1) := by simpa using hk
          have e1 : insN s0.n q k = (q.1 ++ [(k, s0.n + 1)], q.2 ++ [k]) := if_neg hn
          rw [e1]
          have e2 : so s0.L (q.1 ++ [(k, s0.n + 1)], q.2 ++ [k]) = [.per (grR P w K T.C_ImplicationGraph g), .per (dat K (litD goal)), .own (ldO P w K (putD (tD q.1) k (.int ((s0.n : Int) + 1)))), .per (dat K (.list (s0.L.map litD))), .own (lstO K (q.2.map litD ++ [litD k])), .no, .no, .no] := by
            show [_, _, Sl.own (ldO P w K (tD (q.1 ++ [(k, s0.n + 1)]))), _, Sl.own (lstO K ((q.2 ++ [k]).map litD)), _, _, _] = _
            rw [← tD_new hn, List.map_append]
            rfl
          rw [e2]
          exact b_cons (s_put 2 (ps_ld hu) (opdP_ld hz) (d_bin op_add opd_I0 (d_ixO 2 (ix_ld hu) (opdO_ldGet hv) (d_var 5)) d_int) (d_var 6)) (b_one (s_expr (d_app 4 (d_var 6) hz')))
        case no =>
          have hn : k ∈ q.1.map (·.1) := by simpa using hk
          have e1 : insN s0.n q k = q := if_pos hn
          rw [e1]
          exact b_nil
        case sub2 => exact Sub.unset rfl
end
end Fc
/-! FcBf: distances and chains, in plain Lean. -/
namespace Fc
open PySem PySem.W PySem.Spec PyProof.Rows L2
/-- a way of n steps -/
def Pn (g : Gm) : Nat → Lt → Lt → Prop
  | 0, a, b => a = b
  | n + 1, a, b => ∃ c, c ∈ succ g a ∧ Pn g n c b
theorem Pn.trans {g : Gm} : ∀ {n m : Nat} {a b c : Lt}, Pn g n a b → Pn g m b c → Pn g (n + m) a c
  | 0, m, a, b, c, h, k => by rw [Nat.zero_add]; rw [show a = b from h]; exact k
  | n + 1, m, a, b, c, ⟨x, hx, h⟩, k => by
    rw [Nat.add_right_comm]
    exact ⟨x, hx, h.trans k⟩
theorem Pn.one {g : Gm} {a b : Lt} (h : b ∈ succ g a) : Pn g 1 a b := ⟨b, h, rfl⟩
theorem Pn.snoc {g : Gm} {n : Nat} {a b c : Lt} (h : Pn g n a b) (k : c ∈ succ g b) : Pn g (n + 1) a c := h.trans (Pn.one k)
theorem Pn.last {g : Gm} : ∀ {n : Nat} {a b : Lt}, Pn g (n + 1) a b → ∃ c, Pn g n a c ∧ b ∈ succ g c
  | 0, a, b, ⟨x, hx, h⟩ => ⟨a, rfl, by rw [← show x = b from h]; exact hx⟩
  | n + 1, a, b, ⟨x, hx, h⟩ => by
    obtain ⟨c, h1, h2⟩ := Pn.last h
    exact ⟨c, ⟨x, hx, h1⟩, h2⟩
theorem succ_neg {g : Gm} {a b : Lt} (h : b ∈ succ g a) : neg a ∈ succ g (neg b) := by
  obtain ⟨c, hc, h⟩ := tgts_mem.mp (succ_mem.mp h)
  refine succ_mem.mpr (tgts_mem.mpr ⟨c, hc, ?_⟩)
  rcases h with ⟨h1, h2⟩ | ⟨h1, h2⟩
  · exact .inr ⟨by rw [h2], by rw [← h1, neg_neg]⟩
  · exact .inl ⟨by rw [h2], by rw [← h1, neg_neg]⟩
theorem Pn.neg {g : Gm} : ∀ {n : Nat} {a b : Lt}, Pn g n a b → Pn g n (neg b) (neg a)
  | 0, a, b, h => by rw [show a = b from h]; rfl
  | n + 1, a, b, ⟨x, hx, h⟩ => (Pn.neg h).snoc (succ_neg hx)
theorem Pn.neg_iff {g : Gm} {n : Nat} {a b : Lt} : Pn g n (Fc.neg b) a ↔ Pn g n (Fc.neg a) b := ⟨fun h => by have := h.neg; rwa [neg_neg] at this, fun h => by have := h.neg; rwa [neg_neg] at this⟩
theorem Pn.names {g : Gm} (hg : GmOk g) : ∀ {n : Nat} {a b : Lt}, Pn g n a b → a.1 ∈ g.names → b.1 ∈ g.names
  | 0, a, b, h, k => by rw [← show a = b from h]; exact k
  | n + 1, a, b, ⟨x, hx, h⟩, k => h.names hg (succ_names hg hx)
/-- n is the distance -/
def Dst (g : Gm) (n : Nat) (a b : Lt) : Prop := Pn g n a b ∧ ∀ i, i < n → ¬ Pn g i a b
theorem Dst.uniq {g : Gm} {n m : Nat} {a b : Lt} (h : Dst g n a b) (k : Dst g m a b) : n = m := by
  rcases Nat.lt_trichotomy n m with c | c | c
  · exact absurd h.1 (k.2 _ c)
  · exact c
  · exact absurd k.1 (h.2 _ c)
theorem Dst.of {g : Gm} : ∀ {n : Nat} {a b : Lt}, Pn g n a b → ∃ m, m ≤ n ∧ Dst g m a b := by
  intro n
  induction n using Nat.strongRecOn with
  | ind n ih =>
    intro a b h
    by_cases k : ∃ i, i < n ∧ Pn g i a b
    · obtain ⟨i, h1, h2⟩ := k
      obtain ⟨m, h3, h4⟩ := ih i h1 h2
      exact ⟨m, by omega, h4⟩
    · exact ⟨n, Nat.le_refl _, h, fun i h1 h2 => k ⟨i, h1, h2⟩⟩
theorem Dst.next {g : Gm} {n : Nat} {a b : Lt} (h : Dst g (n + 1) a b) : ∃ c, c ∈ succ g a ∧ Dst g n c b := by
  obtain ⟨⟨c, hc, hp⟩, h2⟩ := h
  exact ⟨c, hc, hp, fun i hi k => h2 (i + 1) (by omega) ⟨c, hc, k⟩⟩
/-! ### the rounds -/
structure BInv (g : Gm) (a0 : Lt) (s : DSt) : Prop where
  val : ∀ p ∈ s.D, p.2 ≤ s.n ∧ Dst g p.2 a0 p.1
  all : ∀ k w, w ≤ s.n → Pn g w a0 k → k ∈ s.D.map (·.1)
  lev : ∀ l, l ∈ s.L ↔ (l, s.n) ∈ s.D
theorem insN_spec {n : Nat} {s : DL × List Lt} {k : Lt} : insN n s k = if k ∈ s.1.map (·.1) then s else (s.1 ++ [(k, n + 1)], s.2 ++ [k]) := rfl
/-- what a round adds -/
theorem foldN_spec {n : Nat} : ∀ (xs : List Lt) (D : DL) (F : List Lt), ∃ E : List Lt, xs.foldl (insN n) (D, F) = (D ++ E.map (fun k => (k, n + 1)), F ++ E) ∧ (∀ k ∈ E, k ∈ xs ∧ k ∉ D.map (·.1)) ∧ ∀ k ∈ xs, k ∈ D.map (·.1) ∨ k ∈ E
  | [], D, F => ⟨[], by simp, fun k h => (nomatch h), fun k h => (nomatch h)⟩
  | x :: xs, D, F => by
    rw [List.foldl_cons, insN_spec]
    split
    · rename_i h
      obtain ⟨E, h1, h2, h3⟩ := foldN_spec xs D F
      refine ⟨E, h1, fun k hk => ⟨List.mem_cons_of_mem _ (h2 k hk).1, (h2 k hk).2⟩, fun k hk => ?_⟩
      rcases List.mem_cons.mp hk with rfl | hk
      · exact .inl h
      · exact h3 k hk
    · rename_i h
      obtain ⟨E, h1, h2, h3⟩ := foldN_spec xs (D ++ [(x, n + 1)]) (F ++ [x])
      refine ⟨x :: E, by rw [h1]; simp, fun k hk => ?_, fun k hk => ?_⟩
      · rcases List.mem_cons.mp hk with rfl | hk
        · exact ⟨List.mem_cons_self, h⟩
        · obtain ⟨h4, h5⟩ := h2 k hk
          exact ⟨List.mem_cons_of_mem _ h4, fun z => h5 (by rw [List.map_append]; exact List.mem_append_left _ z)⟩
      · rcases List.mem_cons.mp hk with rfl | hk
        · exact .inr List.mem_cons_self
        · rcases h3 k hk with h4 | h4
          · rw [List.map_append] at h4
            rcases List.mem_append.mp h4 with h4 | h4
            · exact .inl h4
            · have : k = x := by simpa using h4
              rw [this]
              exact .inr List.mem_cons_self
          · exact .inr (List.mem_cons_of_mem _ h4)
theorem BInv.round {g : Gm} {a0 : Lt} {s : DSt} (h : BInv g a0 s) : BInv g a0 (roundN g s) := by
  obtain ⟨E, e, h2, h3⟩ := foldN_spec (n := s.n) (s.L.flatMap (succ g)) s.D []
  have eD : (roundN g s).D = s.D ++ E.map fun k => (k, s.n + 1) := by
    show ((s.L.flatMap (succ g)).foldl (insN s.n) (s.D, [])).1 = _
    rw [e]
  have eL : (roundN g s).L = E := by
    show ((s.L.flatMap (succ g)).foldl (insN s.n) (s.D, [])).2 = _
    rw [e]
    rfl
  have en : (roundN g s).n = s.n + 1 := rfl
  have hw : ∀ k ∈ E, Dst g (s.n + 1) a0 k := fun k hk => by
    obtain ⟨h4, h5⟩ := h2 k hk
    obtain ⟨l, hl, hs⟩ := List.mem_flatMap.mp h4
    have := (h.val _ ((h.lev l).mp hl)).2.1
    exact ⟨this.snoc hs, fun i hi z => h5 (h.all k i (by omega) z)⟩
  refine ⟨?_, ?_, ?_⟩
  · rw [eD, en]
    intro p hp
    rcases List.mem_append.mp hp with hp | hp
    · have := h.val p hp
      exact ⟨by omega, this.2⟩
    · obtain ⟨k, hk, rfl⟩ := List.mem_map.mp hp
      exact ⟨Nat.le_refl _, hw k hk⟩
  · rw [eD, en]
    intro k w hle hp
    rw [List.map_append]
    by_cases hk : k ∈ s.D.map (·.1)
    · exact List.mem_append_left _ hk
    refine List.mem_append_right _ ?_
    have hwn : w = s.n + 1 := by
      by_cases z : w ≤ s.n
      · exact absurd (h.all k w z hp) hk
      · omega
    subst hwn
    obtain ⟨l, h4, h5⟩ := hp.last
    obtain ⟨p, hp1, rfl⟩ := List.mem_map.mp (h.all l s.n (Nat.le_refl _) h4)
    obtain ⟨h6, h7⟩ := h.val p hp1
    have hv : p.2 = s.n := by
      by_cases z : p.2 < s.n
      · exact absurd (h.all k (p.2 + 1) z (h7.1.snoc h5)) hk
      · omega
    have hl : p.1 ∈ s.L := (h.lev p.1).mpr (by rw [← hv]; exact hp1)
    have := (h3 k (List.mem_flatMap.mpr ⟨p.1, hl, h5⟩)).resolve_left hk
    rw [List.map_map]
    exact List.mem_map.mpr ⟨k, this, rfl⟩
  · intro l
    rw [eD, eL, en, List.mem_append]
    refine ⟨fun hl => .inr (List.mem_map.mpr ⟨l, hl, rfl⟩), fun hl => ?_⟩
    rcases hl with hl | hl
    · have := (h.val _ hl).1
      exact absurd this (by show ¬ s.n + 1 ≤ s.n; omega)
    · obtain ⟨k, hk, e⟩ := List.mem_map.mp hl
      injection e with e1 e2
      rw [← e1]; exact hk
theorem BInv.start {g : Gm} {goal : Lt} : BInv g (neg goal) (dSt0 goal) := by
  refine ⟨?_, ?_, ?_⟩
  · intro p hp
    rw [List.mem_singleton.mp hp]
    exact ⟨Nat.le_refl _, rfl, fun i hi => absurd hi (Nat.not_lt_zero _)⟩
  · intro k w hw hp
    obtain rfl : w = 0 := Nat.le_zero.mp hw
    rw [← show neg goal = k from hp]
    exact List.mem_cons_self
  · intro l
    show l ∈ [neg goal] ↔ (l, 0) ∈ [(neg goal, 0)]
    simp
theorem BInv.itr {g : Gm} {goal : Lt} : ∀ m, BInv g (neg goal) (itr (roundN g) m (dSt0 goal))
  | 0 => BInv.start
  | m + 1 => (BInv.itr m).round
theorem BInv.done {g : Gm} {a0 : Lt} {s : DSt} (h : BInv g a0 s) (hl : s.L = []) : ∀ w k, Pn g w a0 k → k ∈ s.D.map (·.1)
  | 0, k, hp => h.all k 0 (Nat.zero_le _) hp
  | w + 1, k, hp => by
    obtain ⟨l, h4, h5⟩ := hp.last
    obtain ⟨p, hp1, rfl⟩ := List.mem_map.mp (h.done hl w l h4)
    obtain ⟨h6, h7⟩ := h.val p hp1
    have hv : p.2 ≠ s.n := fun z => by
      have : p.1 ∈ s.L := (h.lev p.1).mpr (by rw [← z]; exact hp1)
      rw [hl] at this
      exact nomatch this
    exact h.all k (p.2 + 1) (by omega) (h7.1.snoc h5)
/-- all that is wanted of the distances -/
theorem distD_ok {g : Gm} (hg : GmOk g) {goal : Lt} (ha : goal.1 ∈ g.names) : ((distD g goal).map (·.1)).Nodup ∧ (∀ p ∈ distD g goal, Dst g p.2 (neg goal) p.1) ∧ ∀ w k, Pn g w (neg goal) k → k ∈ (distD g goal).map (·.1) := by
  obtain ⟨m, m0, m1, m2, m3⟩ := itr_stop (roundN g) (fun s => s.L = []) (DInv g) (fun s => 2 * (2 * g.ops.length - s.D.length) + s.L.length) (fun s h hs => round_inv hg h hs) _ (dSt0 goal) (Nat.le_refl _) (dSt0_inv ha)
  have e : distD g goal = (itr (roundN g) m (dSt0 goal)).D := by rw [distD, firstM_eq m1 m2]
  have b := BInv.itr (g := g) (goal := goal) m
  rw [e]
  exact ⟨(m3 m (Nat.le_refl _)).nd, fun p hp => (b.val p hp).2, b.done m1⟩
theorem Dst.neg_iff {g : Gm} {n : Nat} {a b : Lt} : Dst g n (neg b) (neg a) ↔ Dst g n a b := by
  have key : ∀ i, Pn g i (neg b) (neg a) ↔ Pn g i a b := fun i => ⟨fun h => by have := h.neg; rwa [neg_neg, neg_neg] at this, Pn.neg⟩
  unfold Dst
  rw [key]
  exact and_congr_right fun _ => forall_congr' fun i => imp_congr_right fun _ => not_congr (key i)
theorem distF_keys {D : DL} : (distTo D).map (·.1) = (D.map (·.1)).map neg := by
  unfold distTo
  rw [List.map_map, List.map_map]
  rfl
theorem valD_distTo {D : DL} {a : Lt} {d : PyData} (h : valD (distTo D) a = some d) : ∃ n : Nat, d = .int (n : Int) ∧ (neg a, n) ∈ D := by
  induction D with
  | nil => exact nomatch h
  | cons p D ih =>
    unfold distTo at h ih
    rw [List.map_cons, valD_cons] at h
    split at h
    · rename_i e
      injection h with h
      refine ⟨p.2, h.symm, ?_⟩
      have : neg a = p.1 := by rw [← e, neg_neg]
      rw [this]
      exact List.mem_cons_self
    · obtain ⟨n, h1, h2⟩ := ih h
      exact ⟨n, h1, List.mem_cons_of_mem _ h2⟩
theorem distF_some {g : Gm} (hg : GmOk g) {goal a : Lt} (hn : goal.1 ∈ g.names) {n : Nat} (h : Dst g n a goal) : valD (distF g goal) a = some (.int (n : Int)) := by
  obtain ⟨h1, h2, h3⟩ := distD_ok hg hn
  have hk := h3 n (neg a) (Dst.neg_iff.mpr h).1
  cases e : valD (distF g goal) a with
  | none =>
    rw [valD_none, distF_keys] at e
    exact absurd (List.mem_map.mpr ⟨neg a, hk, neg_neg a⟩) e
  | some d =>
    obtain ⟨m, rfl, hm⟩ := valD_distTo e
    have e2 : m = n := (Dst.neg_iff.mp (h2 _ hm)).uniq h
    rw [e2]
theorem distF_none {g : Gm} (hg : GmOk g) {goal a : Lt} (hn : goal.1 ∈ g.names) (h : ∀ n, ¬ Pn g n a goal) : valD (distF g goal) a = none := by
  obtain ⟨h1, h2, h3⟩ := distD_ok hg hn
  cases e : valD (distF g goal) a with
  | none => rfl
  | some d =>
    obtain ⟨m, rfl, hm⟩ := valD_distTo e
    exact absurd (Dst.neg_iff.mp (h2 _ hm)).1 (h m)
theorem distF_iff {g : Gm} (hg : GmOk g) {goal a : Lt} (hn : goal.1 ∈ g.names) {n : Nat} : valD (distF g goal) a = some (.int (n : Int)) ↔ Dst g n a goal := by
  refine ⟨fun h => ?_, distF_some hg hn⟩
  by_cases k : ∃ m, Pn g m a goal
  · obtain ⟨m, hm⟩ := k
    obtain ⟨r, _, hr⟩ := Dst.of hm
    have := distF_some hg hn hr
    rw [this] at h
    injection h with h
    injection h with h
    obtain rfl : r = n := by omega
    exact hr
  · rw [distF_none hg hn fun m hm => k ⟨m, hm⟩] at h
    exact nomatch h
/-! ### the chain -/
open Classical in
/-- the first successor with n steps to go -/
noncomputable def nxt (g : Gm) (b : Lt) (n : Nat) (a : Lt) : Option Lt := (succ g a).find? fun k => decide (Dst g n k b)
open Classical in
theorem nxt_some {g : Gm} {a b : Lt} {n : Nat} (h : Dst g (n + 1) a b) : ∃ c, nxt g b n a = some c ∧ c ∈ succ g a ∧ Dst g n c b := by
  obtain ⟨c, h1, h2⟩ := h.next
  cases e : nxt g b n a with
  | none =>
    unfold nxt at e
    have := List.find?_eq_none.mp e c h1
    exact absurd (decide_eq_true h2) this
  | some d =>
    unfold nxt at e
    exact ⟨d, rfl, List.mem_of_find?_eq_some e, of_decide_eq_true (List.find?_some (p := fun k => decide (Dst g n k b)) e)⟩
noncomputable def chD (g : Gm) (b : Lt) : Nat → Lt → List Lt
  | 0, a => [a]
  | n + 1, a => a :: match nxt g b n a with
    | some c => chD g b n c
    | none => []
theorem chD_len {g : Gm} {b : Lt} : ∀ {n : Nat} {a : Lt}, Dst g n a b → (chD g b n a).length = n + 1
  | 0, a, h => rfl
  | n + 1, a, h => by
    obtain ⟨c, h1, h2, h3⟩ := nxt_some h
    unfold chD
    rw [h1, List.length_cons]
    show (chD g b n c).length + 1 = _
    rw [chD_len h3]
theorem chD_get {g : Gm} {b : Lt} : ∀ {n : Nat} {a : Lt} (i : Nat), Dst g n a b → i ≤ n → ∃ l, (chD g b n a)[i]? = some l ∧ Dst g (n - i) l b ∧ (i < n → ∃ c, nxt g b (n - i - 1) l = some c ∧ (chD g b n a)[i + 1]? = some c)
  | 0, a, i, h, hi => by
    obtain rfl : i = 0 := by omega
    exact ⟨a, rfl, h, fun z => absurd z (Nat.lt_irrefl _)⟩
  | n + 1, a, 0, h, hi => by
    obtain ⟨c, h1, h2, h3⟩ := nxt_some h
    refine ⟨a, rfl, h, fun _ => ⟨c, h1, ?_⟩⟩
    unfold chD
    rw [h1]
    cases n with
    | zero => rfl
    | succ n => rfl
  | n + 1, a, i + 1, h, hi => by
    obtain ⟨c, h1, h2, h3⟩ := nxt_some h
    obtain ⟨l, h4, h5, h6⟩ := chD_get i h3 (by omega)
    refine ⟨l, ?_, by rw [show n + 1 - (i + 1) = n - i by omega]; exact h5, fun z => ?_⟩
    · unfold chD
      rw [h1]
      exact h4
    · obtain ⟨d, h7, h8⟩ := h6 (by omega)
      refine ⟨d, by rw [show n + 1 - (i + 1) - 1 = n - i - 1 by omega]; exact h7, ?_⟩
      unfold chD
      rw [h1]
      exact h8
theorem chD_mem {g : Gm} {b : Lt} : ∀ {n : Nat} {a : Lt}, Dst g n a b → ∀ k ∈ chD g b n a, ∃ i, i ≤ n ∧ Dst g i k b
  | 0, a, h, k, hk => by
    rw [List.mem_singleton.mp hk]
    exact ⟨0, Nat.le_refl _, h⟩
  | n + 1, a, h, k, hk => by
    obtain ⟨c, h1, h2, h3⟩ := nxt_some h
    unfold chD at hk
    rw [h1] at hk
    rcases List.mem_cons.mp hk with rfl | hk
    · exact ⟨n + 1, Nat.le_refl _, h⟩
    · obtain ⟨i, h4, h5⟩ := chD_mem h3 k hk
      exact ⟨i, by omega, h5⟩
theorem chD_nodup {g : Gm} {b : Lt} : ∀ {n : Nat} {a : Lt}, Dst g n a b → (chD g b n a).Nodup
  | 0, a, h => by unfold chD; simp
  | n + 1, a, h => by
    obtain ⟨c, h1, h2, h3⟩ := nxt_some h
    unfold chD
    rw [h1]
    refine List.nodup_cons.mpr ⟨fun z => ?_, chD_nodup h3⟩
    obtain ⟨i, h4, h5⟩ := chD_mem h3 a z
    have := h5.uniq h
    omega
theorem chD_names {g : Gm} (hg : GmOk g) {b : Lt} : ∀ {n : Nat} {a : Lt}, a.1 ∈ g.names → ∀ k ∈ chD g b n a, k.1 ∈ g.names
  | 0, a, h, k, hk => by rw [List.mem_singleton.mp hk]; exact h
  | n + 1, a, h, k, hk => by
    unfold chD at hk
    rcases List.mem_cons.mp hk with rfl | hk
    · exact h
    · cases e : nxt g b n a with
      | none => rw [e] at hk; exact nomatch hk
      | some c =>
        rw [e] at hk
        exact chD_names hg (succ_names hg (List.mem_of_find?_eq_some e)) k hk
theorem Dst.lt {g : Gm} (hg : GmOk g) {a b : Lt} {n : Nat} (h : Dst g n a b) (ha : a.1 ∈ g.names) : n < 2 * g.ops.length := by
  have h1 := nodup_le (chD_nodup h) fun k hk => lits_mem.mpr (chD_names hg ha k hk)
  rw [chD_len h, lits_len] at h1
  omega
open Classical in
/-- the best chain, if one is -/
noncomputable def bestC (g : Gm) (a b : Lt) : Option (List Lt) := if ∃ n, Pn g n a b then some (chD g b (firstM fun n => Pn g n a b) a) else none
theorem bestC_some {g : Gm} {a b : Lt} {n : Nat} (h : Dst g n a b) : bestC g a b = some (chD g b n a) := by
  unfold bestC
  rw [if_pos ⟨n, h.1⟩, firstM_eq h.1 h.2]
theorem bestC_none {g : Gm} {a b : Lt} (h : ∀ n, ¬ Pn g n a b) : bestC g a b = none := by
  unfold bestC
  exact if_neg fun ⟨n, k⟩ => h n k
theorem bestC_cases (g : Gm) (a b : Lt) : (∃ n, Dst g n a b ∧ bestC g a b = some (chD g b n a)) ∨ ((∀ n, ¬ Pn g n a b) ∧ bestC g a b = none) := by
  by_cases k : ∃ m, Pn g m a b
  · obtain ⟨m, hm⟩ := k
    obtain ⟨r, _, hr⟩ := Dst.of hm
    exact .inl ⟨r, hr, bestC_some hr⟩
  · exact .inr ⟨fun n h => k ⟨n, h⟩, bestC_none fun n h => k ⟨n, h⟩⟩
end Fc
/-! FcSh: ImplicationGraph.shortest_chain. -/
namespace Fc
open PySem PySem.W PySem.Spec PyProof.Rows L2
theorem atI_last {α : Type} {xs : List α} {n : Nat} {x : α} (hl : xs.length = n + 1) (h : xs[n]? = some x) : atI xs (-1) = some x := by
  have e : ixN xs.length (-1) = some n := by
    unfold ixN
    rw [if_neg (by omega), if_pos (by omega), hl]
    congr 1
    omega
  unfold atI
  rw [e]
  exact h
theorem atI_zero {α : Type} {xs : List α} {x : α} (h : xs[0]? = some x) : atI xs 0 = some x := by
  have hl := (List.getElem?_eq_some_iff.mp h).1
  have e : ixN xs.length 0 = some 0 := by
    unfold ixN
    rw [if_pos (by omega), if_pos (by omega)]
    rfl
  unfold atI
  rw [e]
  exact h
/-- a chain, or none -/
def oD : Option (List Lt) → PyData
  | none => .none
  | some c => .list (c.map litD)
section
variable {X : Cx} {C : Addr} {k : Nat} {ps : List Str} {p pos apos : Pos} {e o : Expr} {es : List Expr} {ρ ρ1 ρ2 : Rho} {rs : List Rp} {r rg : Rp} {x qual m : Str} {st : Stmt}
/-- o.m(..) -/
theorem d_methT {ι : Type} {pre : ι → Prop} {rsf : ι → List Rp} {rf : ι → Rp} (G : FnT X.K X.mg x qual st ps) (F : FnOk X.prog X.w X.K X.mg X.base CX0 k G.a G.d ps (spI pre rsf rf)) (i : ι) (hp : pre i) {kk : Nat} (hr : Room kk X.A) (hi : IsIns C m rg) (c : Cls X.K C) (hm : Meth X.K C m G.a) (ho : PE X o (tE ρ ρ1 rg)) (ha : PA X (e :: es) (tAs ρ1 ρ2 rs))
    (h1 : rsf i = rg :: rs := by rfl) (h2 : rf i = r := by rfl) (hkk : k ≤ kk := by decide) {pl : Sem Bool}
    (hst : starEach (e :: es) X.env = (false, eval e X.env) :: starEach es X.env := by rfl) (hpl : (backTo pos (starEach es X.env)).any (·.1) = false := by rfl)
    (ht : eval (.Call (.Attribute o m apos) (e :: es) [] pos) X.env = (do
      let ov ← eval o X.env
      standAt apos.atName
      let (f, first) ← holding [ov] (getMethod ov m pl)
      callWith pos f first (backTo pos (starEach (e :: es) X.env)) (backToKw pos (keywordEach [] X.env))) := by rfl) : PE X (.Call (.Attribute o m apos) (e :: es) [] pos) (tE ρ ρ2 r) := by
  subst h2
  refine d_meth hi ho c hm F (E := fun _ _ _ => False) (fun vs H Q h => ⟨i, hp, ?_⟩) (hr.mono hkk) G.b pass0 ha hst hpl ht
  rw [h1]
  exact h
end
section
variable {P : Program} {w : World} {K : PySem.W.Frag} {mg : Str → Option Value} {base : Heap}
abbrev sp_shortest_chain (P : Program) (w : World) (K : PySem.W.Frag) (C : Addr) : Sp := spI (ι := Gm × Lt × Lt) (fun i => GmOk i.1 ∧ i.2.1.1 ∈ i.1.names ∧ i.2.2.1 ∈ i.1.names) (fun i => [grR P w K C i.1, dat K (litD i.2.1), dat K (litD i.2.2)]) (fun i => dat K (oD (bestC i.1 i.2.1 i.2.2)))
theorem ok_shortest_chain (T : Txt K mg) : FnOk P w K mg base CX0 3 T.ImplicationGraph_shortest_chain.a T.ImplicationGraph_shortest_chain.d ["self", "start", "goal"] (sp_shortest_chain P w K T.C_ImplicationGraph) := by
  have nd := sc_ImplicationGraph_shortest_chain.nd
  refine fn_pure T.ImplicationGraph_shortest_chain.F sc_ImplicationGraph_shortest_chain (fun _ => rfl) (fun cdv A outer s H E i hr hi => ?_)
  obtain ⟨g, a, b⟩ := i
  obtain ⟨hg, ha, hb⟩ := hi
  have hu := hu_of hr
  have hu64 := hr.units
  have hlen : 1 ≤ g.ops.length ∧ g.ops.length ≤ 5 := GmOk.len hg
  let ρ1 : Rho := [.per (grR P w K T.C_ImplicationGraph g), .per (dat K (litD a)), .per (dat K (litD b)), .per (ldR P w K (distF g b)), .no, .no, .no, .no]
  rcases bestC_cases g a b with ⟨n, hn, e⟩ | ⟨hn, e⟩
  · have hnl : n < 2 * g.ops.length := hn.lt hg ha
    let ch := chD g b n a
    have hcl : ch.length = n + 1 := chD_len hn
    let sto : Nat → Rho := fun i => [.per (grR P w K T.C_ImplicationGraph g), .per (dat K (litD a)), .per (dat K (litD b)), .per (ldR P w K (distF g b)), .own (lstO K ((ch.take (i + 1)).map litD)), .no, .no, .no]
    have hat : ∀ i l, ch[i]? = some l → atI ((ch.take (i + 1)).map litD) (-1) = some (litD l) := fun i l h => by
      have hi := (List.getElem?_eq_some_iff.mp h).1
      refine atI_last (n := i) (by rw [List.length_map, List.length_take]; omega) ?_
      rw [List.getElem?_map, List.getElem?_take, if_pos (by omega), h]
      rfl
    refine ⟨.rt (dat K (oD (bestC g a b))) ((sto n).set 4 (.per (dat K (.list ((ch.take (n + 1)).map litD))))),
      b_cons (s_set 3 (d_methT T.ImplicationGraph_distances_to (ok_distances_to T) (g, b) ⟨hg, hb⟩ hr (gr_ins (by decide)) T.cl_ImplicationGraph T.m_ImplicationGraph_distances_to (d_var 0) (a_cons (d_var 2) a_nil)))
      (b_no (t_cmp (op_ldNotIn hu) (opd_ldIn (neg := true) (by rw [distF_some hg hb hn]; rfl)) (d_var 1) (d_var 3))
      (b_cons (s_new 4 (n_lst (ds := [litD a]) (a_cons (d_var 1) a_nil)))
      (b_cons (s_while n sto ?h0 ?test ?body)
      (b_rep (r := dat K (.list ((ch.take (n + 1)).map litD))) (b_ret (s_ret (e_share 4 sh_lst (d_var 4)))) (fun v B h => by
        rw [e]
        rw [List.take_of_length_le (by omega)] at h
        exact h))))), .inl ⟨_, rfl⟩⟩
    case h0 =>
      have e0 : (ch.take (0 + 1)).map litD = [litD a] := by
        show ((chD g b n a).take 1).map litD = _
        cases n <;> rfl
      show Sub _ [_, _, _, _, Sl.own (lstO K ((ch.take (0 + 1)).map litD)), _, _, _]
      rw [e0]
      exact Sub.refl _
    case test =>
      intro i hi
      obtain ⟨l, h1, h2, h3⟩ := chD_get i hn hi
      refine t_cmp (op_neP hu64) (opd_neT (α := Lt) (x := l) (y := b) ?e) (d_ixO 4 ix_list (opdO_ixL (hat i l h1)) (d_un un_neg (und_neg (i := 1)) d_int)) (d_var 2)
      case e =>
        by_cases hm : i < n
        · have : l ≠ b := fun z => by
            have h4 : Dst g 0 l b := ⟨z, fun i hi => absurd hi (Nat.not_lt_zero _)⟩
            have := h4.uniq h2
            omega
          simp [this, hm]
        · obtain rfl : i = n := by omega
          rw [Nat.sub_self] at h2
          have : l = b := h2.1
          simp [this]
    case body =>
      intro i hi
      obtain ⟨l, h1, h2, h3⟩ := chD_get i hn (Nat.le_of_lt hi)
      obtain ⟨c, h4, h5⟩ := h3 hi
      have hln : l.1 ∈ g.names := chD_names hg ha l (List.mem_of_getElem? h1)
      have hsl : (succ g l).length ≤ 14 := succ_len hg l
      have hv : valD (distF g b) l = some (.int ((n - i : Nat) : Int)) := distF_some hg hb h2
      have hfc : ((succ g l).filter fun k => @decide (Dst g (n - i - 1) k b) (Classical.propDecidable _))[0]? = some c := by
        rw [← List.head?_eq_getElem?, List.head?_filter]
        exact h4
      have hlt : (ch.take (i + 1)).map litD ++ [litD c] = (ch.take (i + 1 + 1)).map litD := by
        rw [take_snoc (xs := ch) (i := i + 1) h5, List.map_append]
        rfl
      have hlen2 : ((ch.take (i + 1)).map litD).length < 1000000 := by rw [List.length_map, List.length_take, hcl]; omega
      refine ⟨_, b_cons (s_set 5 (d_bin op_sub opd_I0 (d_ix (ix_ld hu) (opd_ldGet hv) (d_var 3) (d_ixO 4 ix_list (opdO_ixL (hat i l h1)) (d_un un_neg (und_neg (i := 1)) d_int))) d_int))
        (b_cons (s_lcT 6 (lc_if (succ g l) (fun k => dat K (litD k)) (fun k => @decide (Dst g (n - i - 1) k b) (Classical.propDecidable _)) litD 7
          (i_listT (xs := succ g l) (f := litD) (d_ix (ix_ld hu) (opd_ldGet (l := l) (succL_val hln)) (d_fld gr_fld T.cl_ImplicationGraph T.n_ImplicationGraph_successors (d_var 0)) (d_ixO 4 ix_list (opdO_ixL (hat i l h1)) (d_un un_neg (und_neg (i := 1)) d_int))))
          (blkOk_by (N := ["self", "start", "goal", "distances", "result", "remaining", "closer", "literal"]) (sc := defScope s_ImplicationGraph_shortest_chain) (by decide +kernel)) (fun _ _ _ _ _ => pg_name (i := 7) nd rfl (.inl rfl)) rfl (by omega)
          ?tst (fun k _ _ _ _ _ _ _ => d_var 7)))
        (b_one (s_expr (d_app 4 (d_ix ix_list (opd_ixL (ds := ((succ g l).filter fun k => @decide (Dst g (n - i - 1) k b) (Classical.propDecidable _)).map litD) (d := litD c) ?at0) (d_var 6) d_int) hlen2)))), ?sub⟩
      case sub =>
        show Sub [_, _, _, _, Sl.own (lstO K ((ch.take (i + 1)).map litD ++ [litD c])), _, _, _] (sto (i + 1))
        rw [hlt]
        exact Sub.cons (Sub.cons (Sub.cons (Sub.cons (Sub.cons (Sub.drop (Sub.drop (Sub.cons Sub.nil)))))))
      case at0 => exact atI_zero (by rw [List.getElem?_map, hfc]; rfl)
      case tst =>
        intro k hk _ _ _ _ _
        refine t_cmp (op_eqP hu64) (opd_eqP ?p1 ?p2 ?q) (d_ldGet2 hu (d_var 3) (d_var 7) (d_un un_neg (und_neg (i := 1)) d_int)) (d_var 5)
        case p1 =>
          cases e : valD (distF g b) k with
          | none => exact ⟨rfl, by show 0 ≤ 16; decide⟩
          | some d =>
            obtain ⟨m, rfl, _⟩ := valD_distTo e
            exact ⟨rfl, by show 0 ≤ 16; decide⟩
        case p2 => exact ⟨rfl, by show 0 ≤ 16; decide⟩
        case q =>
          by_cases z : Dst g (n - i - 1) k b
          · rw [distF_some hg hb z, @decide_eq_true _ (Classical.propDecidable _) z]
            show decide (((n - i - 1 : Nat) : Int) = ((n - i : Nat) : Int) - 1) = true
            simp
            omega
          · rw [@decide_eq_false _ (Classical.propDecidable _) z]
            cases e : valD (distF g b) k with
            | none =>
              show decide ((-1 : Int) = ((n - i : Nat) : Int) - 1) = false
              simp
              omega
            | some d =>
              obtain ⟨m, rfl, hm⟩ := valD_distTo e
              have := (distF_iff hg hb).mp e
              show decide ((m : Int) = ((n - i : Nat) : Int) - 1) = false
              rw [decide_eq_false_iff_not]
              intro h
              obtain rfl : m = n - i - 1 := by omega
              exact z this
  · refine ⟨.rt (dat K (oD (bestC g a b))) ρ1,
      b_cons (s_set 3 (d_methT T.ImplicationGraph_distances_to (ok_distances_to T) (g, b) ⟨hg, hb⟩ hr (gr_ins (by decide)) T.cl_ImplicationGraph T.m_ImplicationGraph_distances_to (d_var 0) (a_cons (d_var 2) a_nil)))
      (b_ifr (k := true) (t_cmp (op_ldNotIn hu) (opd_ldIn (neg := true) (by rw [distF_none hg hb hn]; rfl)) (d_var 1) (d_var 3)) (fun _ => b_rep (b_ret (s_ret d_non)) (fun v B h => by rw [e]; exact h)) (fun z => nomatch z)), .inl ⟨_, rfl⟩⟩
end
end Fc
/-! FcBe: best_chain, conflict_chain. -/
namespace Fc
open PySem PySem.W PySem.Spec PyProof.Rows L2
theorem hu128 {k : Nat} {A : Around} (r : Room k A) : A.units + 128 < cLine := by have := r.un; omega
abbrev CD := Int × List Lt
def cdOf (c : List Lt) : CD := ((c.length : Int), c)
/-- the best of these chains -/
def pickC (os : List (Option (List Lt))) : Option (List Lt) := (sortT ((os.filterMap id).map cdOf)).head?.map (·.2)
noncomputable def bestOf (g : Gm) (starts : List Lt) (goal : Lt) : Option (List Lt) := pickC (starts.map fun s => bestC g s goal)
theorem sortT_nil {α : Type} [DecidableEq α] [DatumOrd α] : sortT ([] : List α) = [] := List.eq_nil_of_length_eq_zero (sortT_perm _).length_eq
theorem keep_some {β : Type} (f : List Lt → β) (h : Option (List Lt) → β) (hf : ∀ c, h (some c) = f c) : ∀ os : List (Option (List Lt)), (os.filter (·.isSome)).map h = (os.filterMap id).map f
  | [] => rfl
  | none :: os => by
    rw [List.filter_cons_of_neg (by simp), List.filterMap_cons_none (by rfl)]
    exact keep_some f h hf os
  | some c :: os => by
    rw [List.filter_cons_of_pos (by simp), List.filterMap_cons_some (b := c) (by rfl), List.map_cons, List.map_cons, hf, keep_some f h hf os]
def cdD (o : Option (List Lt)) : PyData := match o with
  | some c => .tuple [.int (c.length : Int), .list (c.map litD)]
  | none => .none
theorem cdD_toD (c : List Lt) : cdD (some c) = Datum.toD (cdOf c) := rfl
theorem isNon_oD (o : Option (List Lt)) : isNon (oD o) = !o.isSome := by cases o <;> rfl
section
variable {X : Cx} {elt tg iter : Expr} {scope : Scope} {own : List (Str × Nat)} {pos spos py : Pos} {ρ ρ0 : Rho} {g : TG} {y : Str}
/-- without a test -/
theorem s_lcA (i : Nat) {α : Type} {xs : List α} {rd : α → Rp} {ρb : α → Rho} {f : α → PyData} (L : LcT X elt tg iter [] scope own ρ ρ0 g xs rd ρb (fun _ => true) f) (hN : X.N.Nodup := by assumption) (hc : X.calm = true := by rfl) (hy : X.N[i]? = some y := by rfl) (hyl : X.env.scope.names.lookup y = some .local := by rfl)
    (hsw : swapsWith (.ListComp elt [⟨tg, iter, [], 0⟩] scope pos) (some (.Name y py)) spos.line X.env = pure true := by exact sw_true rfl rfl rfl (by decide +kernel)) (hs : ∀ x, foldedSetIterable iter X.env x = pure x := by intro _; rfl) :
    PS X (.Assign [.Name y py] (.ListComp elt [⟨tg, iter, [], 0⟩] scope pos) spos) (tS ρ (.nx (ρ0.set i (.per (dat X.K (.list (xs.map f))))))) := by
  have := s_lcT i L hN hc hy hyl hsw hs
  rwa [filter_tt] at this
theorem d_lcA {α : Type} {xs : List α} {rd : α → Rp} {ρb : α → Rho} {f : α → PyData} (L : LcT X elt tg iter [] scope own ρ ρ0 g xs rd ρb (fun _ => true) f) (hN : X.N.Nodup := by assumption) (hc : X.calm = true := by rfl) (hs : ∀ x, foldedSetIterable iter X.env x = pure x := by intro _; rfl) :
    PE X (.ListComp elt [⟨tg, iter, [], 0⟩] scope pos) (tE ρ ρ0 (dat X.K (.list (xs.map f)))) := by
  have := d_lcT (pos := pos) L hN hc hs
  rwa [filter_tt] at this
end
theorem pick_t (cs : List CD) : (!PyData.eqv (.list ((sortT cs).map Datum.toD)) (.list [])) = !decide (cs = []) := by
  have h1 : PyData.eqv (.list ((sortT cs).map Datum.toD)) (.list []) = decide (sortT cs = []) := Datum.eqv (α := List CD) _ []
  refine (congrArg (!·) h1).trans ?_
  by_cases z : cs = []
  · rw [z, sortT_nil]
  · have : ¬ sortT cs = [] := fun k => z (List.eq_nil_of_length_eq_zero (by rw [← (sortT_perm cs).length_eq, k]; rfl))
    rw [decide_eq_false z, decide_eq_false this]
def csOf (os : List (Option (List Lt))) : List CD := (os.filterMap id).map cdOf
theorem csOf_eq (os : List (Option (List Lt))) : PyData.list ((os.filter (·.isSome)).map cdD) = .list ((csOf os).map Datum.toD) := congrArg PyData.list ((keep_some (fun c => cdD (some c)) cdD (fun _ => rfl) os).trans (List.map_map (g := Datum.toD) (f := cdOf) (l := os.filterMap id)).symm)
theorem csOf_len (os : List (Option (List Lt))) : (csOf os).length ≤ os.length := by
  unfold csOf
  rw [List.length_map]
  exact List.length_filterMap_le _ _
section
variable {X : Cx} {a i j : Expr} {p q pos : Pos} {ρ ρ1 : Rho} {os : List (Option (List Lt))}
/-- candidates[0][1] if candidates != [] else None -/
theorem d_pick {v : Str} {q2 q3 q4 q5 q6 q7 q8 q9 : Pos} {k3 kn km : Nat} (hu : X.A.units + 64 < cLine) (s : Nat) (hs : ρ[s]? = some (.per (dat X.K (.list ((sortT (csOf os)).map Datum.toD)))) := by rfl) (hN : X.N[s]? = some v := by rfl) (hv : Vis X.env.scope v := by first | exact Or.inl rfl | exact Or.inr (Or.inl rfl) | exact Or.inr (Or.inr rfl)) (hd : (v == ("__debug__" : Str)) = false := by decide) (hcd : (v == ("__classdict__" : Str)) = false := by decide) :
    PE X (.IfExp (.Compare (.Name v q) [.NotEq] [.List [] q2] q3) (.Subscript (.Subscript (.Name v q4) (.Constant (.int 0) k3 q5) q6) (.Constant (.int 1) kn q7) q8) (.Constant .none km q9) pos) (tE ρ ρ (dat X.K (oD (pickC os)))) := by
  refine d_if (k := !decide (csOf os = [])) (t_cmp (op_neP hu) (opd_neP (plT (α := List CD) _) (plT (α := List CD) []) (pick_t (csOf os))) (d_var s hs hN hv hd hcd) (d_lst (ds := []) a_nil)) (fun h => ?yes) (fun h => ?no)
  case yes =>
    have z : csOf os ≠ [] := by simpa using h
    cases e : sortT (csOf os) with
    | nil => exact absurd (List.eq_nil_of_length_eq_zero (by rw [← (sortT_perm (csOf os)).length_eq, e]; rfl)) z
    | cons x r =>
      have e2 : pickC os = some x.2 := by
        show (sortT (csOf os)).head?.map _ = _
        rw [e]
        rfl
      rw [e2]
      rw [e] at hs
      exact d_ix ix_tup (opd_ixT (ds := [.int x.1, .list (x.2.map litD)]) (d := .list (x.2.map litD)) rfl) (d_ix ix_list (opd_ixL (ds := (x :: r).map Datum.toD) (d := .tuple [.int x.1, .list (x.2.map litD)]) (atI_zero rfl)) (d_var s hs hN hv hd hcd) d_int) d_int
  case no =>
    have z : csOf os = [] := by simpa using h
    have e2 : pickC os = none := by
      show (sortT (csOf os)).head?.map _ = _
      rw [z, sortT_nil]
      rfl
    rw [e2]
    exact d_non
end
section
variable {P : Program} {w : World} {K : PySem.W.Frag} {mg : Str → Option Value} {base : Heap}
abbrev sp_best_chain (P : Program) (w : World) (K : PySem.W.Frag) (C : Addr) : Sp := spI (ι := Gm × List Lt × Lt) (fun i => GmOk i.1 ∧ (∀ s ∈ i.2.1, s.1 ∈ i.1.names) ∧ i.2.2.1 ∈ i.1.names ∧ i.2.1.length ≤ 1000) (fun i => [grR P w K C i.1, dat K (.list (i.2.1.map litD)), dat K (litD i.2.2)]) (fun i => dat K (oD (bestOf i.1 i.2.1 i.2.2)))
theorem ok_best_chain (T : Txt K mg) : FnOk P w K mg base CX0 4 T.ImplicationGraph_best_chain.a T.ImplicationGraph_best_chain.d ["self", "starts", "goal"] (sp_best_chain P w K T.C_ImplicationGraph) := by
  have nd := sc_ImplicationGraph_best_chain.nd
  refine fn_pure T.ImplicationGraph_best_chain.F sc_ImplicationGraph_best_chain (fun _ => rfl) (fun cdv A outer s H E i hr hi => ?_)
  obtain ⟨g, ss, b⟩ := i
  obtain ⟨hg, ha, hb, hz⟩ := hi
  dsimp only at hg ha hb hz
  have hu := hu_of hr
  have hu64 := hr.units
  have h128 := hu128 hr
  let os := ss.map fun s => bestC g s b
  have hcs := csOf_len os
  have hol : os.length = ss.length := List.length_map _
  let ρ2 : Rho := [.per (grR P w K T.C_ImplicationGraph g), .per (dat K (.list (ss.map litD))), .per (dat K (litD b)), .per (dat K (.list (ss.map fun s => oD (bestC g s b)))), .no, .per (dat K (.list ((sortT (csOf os)).map Datum.toD))), .no]
  refine ⟨.rt (dat K (oD (bestOf g ss b))) ρ2,
    b_cons (s_lcA 3 (lc_one ss (fun l => dat K (litD l)) (fun s => oD (bestC g s b)) 4 (i_listT (d_var 1)) (blkOk_by (N := ["self", "starts", "goal", "chains", "start", "candidates", "chain"]) (sc := defScope s_ImplicationGraph_best_chain) (by decide +kernel)) (fun _ _ _ _ _ => pg_name (i := 4) nd rfl (.inl rfl)) rfl (by omega)
      (fun l hl _ _ _ _ _ => d_methT T.ImplicationGraph_shortest_chain (ok_shortest_chain T) (g, l, b) ⟨hg, ha l hl, hb⟩ hr (gr_ins (by decide)) T.cl_ImplicationGraph T.m_ImplicationGraph_shortest_chain (d_var 0) (a_cons (d_var 4) (a_cons (d_var 2) a_nil)))))
    (b_cons (s_set 5 (d_sorted (xs := csOf os) h128 T.z_sorted (d_eq (d_lcT (ρ0 := [.per (grR P w K T.C_ImplicationGraph g), .per (dat K (.list (ss.map litD))), .per (dat K (litD b)), .per (dat K (.list (ss.map fun s => oD (bestC g s b)))), .no, .no, .no]) (lc_if os (fun o => dat K (oD o)) (·.isSome) cdD 6 (i_listT (xs := os) (f := oD) (d_eq (d_var 3) ?e1)) (blkOk_by (N := ["self", "starts", "goal", "chains", "start", "candidates", "chain"]) (sc := defScope s_ImplicationGraph_best_chain) (by decide +kernel)) (fun _ _ _ _ _ => pg_name (i := 6) nd rfl (.inl rfl)) rfl (by omega)
        (fun o ho _ _ _ _ _ => t_cmp op_notN (opd_notN (d := oD o) (b := o.isSome) (by rw [isNon_oD]; simp)) (d_var 6) d_non)
        (fun o ho hk _ _ _ _ _ => ?el))) (csOf_eq os)) (by omega)))
    (b_ret (s_ret (d_pick hu64 5)))), .inl ⟨_, rfl⟩⟩
  case e1 => rw [List.map_map]; rfl
  case el =>
    obtain ⟨c, rfl⟩ := Option.isSome_iff_exists.mp hk
    exact d_tup (ds := [_, _]) (a_cons (d_eq (d_lenL (ds := c.map litD) T.z_len (d_var 6)) (by rw [List.length_map])) (a_cons (d_var 6) a_nil))
/-! ### conflict_chain -/
noncomputable def conflC (g : Gm) (ns : List Str) : Option (List Lt) := pickC (ns.map fun n => bestOf g (ns.map fun m => (m, true)) (n, false))
abbrev sp_conflict_chain (P : Program) (w : World) (K : PySem.W.Frag) (C : Addr) : Sp := spI (ι := Gm × List Str) (fun i => GmOk i.1 ∧ (∀ n ∈ i.2, n ∈ i.1.names) ∧ i.2.length ≤ 1000) (fun i => [grR P w K C i.1, dat K (.list (i.2.map .str))]) (fun i => dat K (oD (conflC i.1 i.2)))
theorem ok_conflict_chain (T : Txt K mg) : FnOk P w K mg base CX0 5 T.conflict_chain.a T.conflict_chain.d ["graph", "given"] (sp_conflict_chain P w K T.C_ImplicationGraph) := by
  have nd := sc_conflict_chain.nd
  refine fn_pure T.conflict_chain.F sc_conflict_chain (fun _ => rfl) (fun cdv A outer s H E i hr hi => ?_)
  obtain ⟨g, ns⟩ := i
  obtain ⟨hg, ha, hz⟩ := hi
  dsimp only at hg ha hz
  have hu := hu_of hr
  have hu64 := hr.units
  have h128 := hu128 hr
  let ss : List Lt := ns.map fun m => (m, true)
  let os := ns.map fun n => bestOf g ss (n, false)
  have hcs := csOf_len os
  have hol : os.length = ns.length := List.length_map _
  have hsl : ss.length = ns.length := List.length_map _
  have hsn : ∀ s ∈ ss, s.1 ∈ g.names := fun s hs => by
    obtain ⟨m, hm, rfl⟩ := List.mem_map.mp hs
    exact ha m hm
  refine ⟨.rt (dat K (oD (conflC g ns))) [.per (grR P w K T.C_ImplicationGraph g), .per (dat K (.list (ns.map .str))), .per (dat K (.list (ns.map fun m => litD (m, true)))), .no, .per (dat K (.list (ns.map fun n => oD (bestOf g ss (n, false))))), .per (dat K (.list ((sortT (csOf os)).map Datum.toD))), .no],
    b_cons (s_set 2 (d_lcA (lc_one ns (fun n => dat K (.str n)) (fun m => litD (m, true)) 3 (i_listT (d_var 1)) (blkOk_by (N := ["graph", "given", "starts", "name", "chains", "candidates", "chain"]) (sc := defScope s_conflict_chain) (by decide +kernel)) (fun _ _ _ _ _ => pg_name (i := 3) nd rfl (.inl rfl)) rfl (by omega)
      (fun l hl _ _ _ _ _ => d_tup (ds := [_, _]) (a_cons (d_var 3) (a_cons d_bl a_nil))))))
    (b_cons (s_lcA 4 (lc_one ns (fun n => dat K (.str n)) (fun n => oD (bestOf g ss (n, false))) 3 (i_listT (d_var 1)) (blkOk_by (N := ["graph", "given", "starts", "name", "chains", "candidates", "chain"]) (sc := defScope s_conflict_chain) (by decide +kernel)) (fun _ _ _ _ _ => pg_name (i := 3) nd rfl (.inl rfl)) rfl (by omega)
      (fun n hn _ _ _ _ _ => d_methT T.ImplicationGraph_best_chain (ok_best_chain T) (g, ss, (n, false)) ⟨hg, hsn, ha n hn, by show ss.length ≤ 1000; omega⟩ hr (gr_ins (by decide)) T.cl_ImplicationGraph T.m_ImplicationGraph_best_chain (d_var 0) (a_cons (d_eq (d_var 2) ?e0) (a_cons (d_tup (ds := [_, _]) (a_cons (d_var 3) (a_cons d_bl a_nil))) a_nil)))))
    (b_cons (s_set 5 (d_sorted (xs := csOf os) h128 T.z_sorted (d_eq (d_lcT (ρ0 := [.per (grR P w K T.C_ImplicationGraph g), .per (dat K (.list (ns.map .str))), .per (dat K (.list (ns.map fun m => litD (m, true)))), .no, .per (dat K (.list (ns.map fun n => oD (bestOf g ss (n, false))))), .no, .no]) (lc_if os (fun o => dat K (oD o)) (·.isSome) cdD 6 (i_listT (xs := os) (f := oD) (d_eq (d_var 4) ?e1)) (blkOk_by (N := ["graph", "given", "starts", "name", "chains", "candidates", "chain"]) (sc := defScope s_conflict_chain) (by decide +kernel)) (fun _ _ _ _ _ => pg_name (i := 6) nd rfl (.inl rfl)) rfl (by omega)
        (fun o ho _ _ _ _ _ => t_cmp op_notN (opd_notN (d := oD o) (b := o.isSome) (by rw [isNon_oD]; simp)) (d_var 6) d_non)
        (fun o ho hk _ _ _ _ _ => ?el))) (csOf_eq os)) (by omega)))
    (b_ret (s_ret (d_pick hu64 5))))), .inl ⟨_, rfl⟩⟩
  case e0 => rw [List.map_map]; rfl
  case e1 => rw [List.map_map]; rfl
  case el =>
    obtain ⟨c, rfl⟩ := Option.isSome_iff_exists.mp hk
    exact d_tup (ds := [_, _]) (a_cons (d_eq (d_lenL (ds := c.map litD) T.z_len (d_var 6)) (by rw [List.length_map])) (a_cons (d_var 6) a_nil))
end
end Fc
/-! FcEg: dicts in a dict: the inner ones lie in the frame. -/
namespace Fc
open PySem PySem.W PySem.Spec PyProof.Rows L2
section
variable {F F0 B H : Hp} {σ : L2.St} {ρ : Rho} {a : Addr} {o o' : HO}
theorem upd_self {F : Hp} (h : F a = some o) : upd F a o = F := by
  funext b
  by_cases hb : b = a
  · subst hb
    rw [upd_same, h]
  · rw [upd_ne hb]
theorem upd_twice {F : Hp} : upd (upd F a o) a o' = upd F a o' := by
  funext b
  by_cases hb : b = a
  · subst hb
    rw [upd_same, upd_same]
  · rw [upd_ne hb, upd_ne hb, upd_ne hb]
theorem upd_comm {F : Hp} {b : Addr} {u : HO} (h : a ≠ b) : upd (upd F a o) b u = upd (upd F b u) a o := by
  funext c
  by_cases ha : c = a
  · subst ha
    rw [upd_ne h, upd_same, upd_same]
  · by_cases hb : c = b
    · subst hb
      rw [upd_same, upd_ne ha, upd_same]
    · rw [upd_ne hb, upd_ne ha, upd_ne ha, upd_ne hb]
theorem Evn.keepFr {c : Ow} (e : Evn F B H σ ρ) (f : Fresh F B H σ ρ a c) (h : H a = some o) : Evn (upd F a o) B H σ ρ := by
  refine ⟨⟨e.sp.bas, fun b u hb => ?_, fun b u hb => ?_⟩, e.len, e.per, fun i d hi => ?_, e.sep⟩
  · by_cases z : b = a
    · subst z
      rw [upd_same] at hb
      rw [h, hb]
    · rw [upd_ne z] at hb
      exact e.sp.frm b u hb
  · by_cases z : b = a
    · subst z
      exact f.nb
    · rw [upd_ne z] at hb
      exact e.sp.dis b u hb
  · obtain ⟨b, h1, h2, h3, h4⟩ := e.own i d hi
    refine ⟨b, h1, h2, ?_, h4⟩
    by_cases z : b = a
    · exact absurd h1 (by rw [z]; exact f.no i d hi)
    · rw [upd_ne z]
      exact h3
theorem Evn.frmMut (e : Evn F B H σ ρ) (h : F a = some o) : Evn (upd F a o') B (upd H a o') σ ρ := by
  have e2 : Evn (upd F a o) B H σ ρ := by rw [upd_self h]; exact e
  have := e2.keepMut (o' := o')
  exact this
theorem Evn.frmLess (e : Evn F B H σ ρ) (h : ∀ b u, F0 b = some u → F b = some u) : Evn F0 B H σ ρ := by
  refine ⟨⟨e.sp.bas, fun b u hb => e.sp.frm b u (h b u hb), fun b u hb => e.sp.dis b u (h b u hb)⟩, e.len, e.per, fun i d hi => ?_, e.sep⟩
  obtain ⟨b, h1, h2, h3, h4⟩ := e.own i d hi
  refine ⟨b, h1, h2, ?_, h4⟩
  cases z : F0 b with
  | none => rfl
  | some u => rw [h b u z] at h3; cases h3
def dropA (F : Hp) (a : Addr) : Hp := fun b => if b = a then none else F b
theorem Evn.frmShare (e : Evn F B H σ ρ) (h : F a = some o) : Same B (upd B a o) ∧ Evn (dropA F a) (upd B a o) H σ ρ := by
  have hB := e.sp.dis a o h
  have sB : Same B (upd B a o) := same_new hB
  refine ⟨sB, ⟨same_at e.sp.bas (e.sp.frm a o h), fun b u hb => ?_, fun b u hb => ?_⟩, e.len, fun i r hi => ?_, fun i d hi => ?_, e.sep⟩
  · unfold dropA at hb
    split at hb
    · cases hb
    · exact e.sp.frm b u hb
  · unfold dropA at hb
    split at hb
    · cases hb
    · rename_i z
      rw [upd_ne z]
      exact e.sp.dis b u hb
  · obtain ⟨v, h1, h2⟩ := e.per i r hi
    exact ⟨v, h1, r.mono sB h2⟩
  · obtain ⟨b, h1, h2, h3, h4⟩ := e.own i d hi
    have z : b ≠ a := fun z => by rw [z, h] at h3; cases h3
    refine ⟨b, h1, by rw [upd_ne z]; exact h2, ?_, d.mono sB rfl h4⟩
    unfold dropA
    rw [if_neg z]
    exact h3
end
section
variable {P : Program} {w : World} {K : PySem.W.Frag}
/-- all of them become shared -/
theorem share_all {F0 H : Hp} {σ : L2.St} {ρ : Rho} (ad : Lt → Addr) (kvs : Lt → List (Lt × PyData)) : ∀ (ls : List Lt) (F B : Hp), Evn F B H σ ρ → ls.Nodup → (∀ b u, F0 b = some u → F b = some u) → (∀ k ∈ ls, F0 (ad k) = none) → (∀ k ∈ ls, ∀ k' ∈ ls, ad k = ad k' → k = k') → (∀ k ∈ ls, (ldO P w K (kvs k)).p (ad k) B F) →
    ∃ F' B', Same B B' ∧ Evn F' B' H σ ρ ∧ (∀ b u, F0 b = some u → F' b = some u) ∧ (∀ b, F b = none → F' b = none) ∧ ∀ k ∈ ls, (ldR P w K (kvs k)).p (.ref (ad k)) B'
  | [], F, B, e, _, hs, _, _, _ => ⟨F, B, Same.refl B, e, hs, fun _ h => h, fun k hk => (nomatch hk)⟩
  | k :: ls, F, B, e, hnd, hs, hn, hi, hp => by
    obtain ⟨nd1, nd2⟩ := List.nodup_cons.mp hnd
    obtain ⟨kv, hl, dv⟩ := hp k List.mem_cons_self
    obtain ⟨o, ho⟩ := ne_some hl.there
    obtain ⟨sB, e2⟩ := e.frmShare ho
    have hne : ∀ k' ∈ ls, ad k' ≠ ad k := fun k' hk' z => nd1 (by rw [← hi k' (List.mem_cons_of_mem _ hk') k List.mem_cons_self z]; exact hk')
    obtain ⟨F', B', s', e', h1, h2, h3⟩ := share_all ad kvs ls (dropA F (ad k)) (upd B (ad k) o) e2 nd2
      (fun b u hb => by
        unfold dropA
        rw [if_neg (fun z => by rw [z, hn k List.mem_cons_self] at hb; cases hb)]
        exact hs b u hb)
      (fun k' hk' => hn k' (List.mem_cons_of_mem _ hk')) (fun k1 h1 k2 h2 z => hi k1 (List.mem_cons_of_mem _ h1) k2 (List.mem_cons_of_mem _ h2) z)
      (fun k' hk' => by
        refine (ldO P w K (kvs k')).mono sB ?_ (hp k' (List.mem_cons_of_mem _ hk'))
        unfold dropA
        rw [if_neg (hne k' hk')])
    refine ⟨F', B', sB.trans s', e', h1, fun b hb => h2 b ?_, fun k' hk' => ?_⟩
    · unfold dropA
      split
      · rfl
      · exact hb
    · rcases List.mem_cons.mp hk' with rfl | hk'
      · refine (ldR P w K (kvs k')).mono s' ⟨ad k', kv, rfl, hl.mono sB ?_, dv.mono sB⟩
        rw [upd_same, ho]
      · exact h3 k' hk'
/-- the outer dict: each literal's inner dict by its place -/
def edO (P : Program) (w : World) (K : PySem.W.Frag) (ad : Lt → Addr) (ls : List Lt) : Ow where
  p := fun a B H => LAt P w K B H a (ls.map fun k => (k, V.ref (ad k)))
  there := fun h => h.there
  mono := fun s e h => h.mono s e
/-- a dict of dicts, shared -/
def edR (P : Program) (w : World) (K : PySem.W.Frag) (kvs : Lt → List (Lt × PyData)) (ls : List Lt) : Rp where
  p := fun v B => ∃ (a : Addr) (ad : Lt → Addr), v = .ref a ∧ LAt P w K B B a (ls.map fun k => (k, V.ref (ad k))) ∧ ∀ k ∈ ls, (ldR P w K (kvs k)).p (.ref (ad k)) B
  mono := fun s ⟨a, ad, e, h, r⟩ => ⟨a, ad, e, h.up s s, fun k hk => (ldR P w K (kvs k)).mono s (r k hk)⟩
/-- the inner dicts lie in F, none of them in F0 -/
structure EG (P : Program) (w : World) (K : PySem.W.Frag) (F0 F B H : Hp) (σ : L2.St) (ρ : Rho) (ad : Lt → Addr) (ks : Lt → List Lt) (ls : List Lt) : Prop where
  evn : Evn F B H σ ρ
  sub : ∀ b u, F0 b = some u → F b = some u
  nf : ∀ k ∈ ls, F0 (ad k) = none
  inj : ∀ k ∈ ls, ∀ k' ∈ ls, ad k = ad k' → k = k'
  at_ : ∀ k ∈ ls, (ldO P w K (tKs (ks k))).p (ad k) B F
theorem EG.base {F0 F B B' H H' : Hp} {σ σ' : L2.St} {ρ ρ' : Rho} {ad : Lt → Addr} {ks : Lt → List Lt} {ls : List Lt} (e : EG P w K F0 F B H σ ρ ad ks ls) (s : Same B B') (h : Evn F B' H' σ' ρ') : EG P w K F0 F B' H' σ' ρ' ad ks ls := ⟨h, e.sub, e.nf, e.inj, fun k hk => (ldO P w K _).mono s rfl (e.at_ k hk)⟩
def addK (ks : Lt → List Lt) (l r : Lt) : Lt → List Lt := fun k => if k = l then (if r ∈ ks l then ks l else ks l ++ [r]) else ks k
theorem tKs_put {ks : List Lt} {k : Lt} : putD (tKs ks) k (.bool true) = tKs (if k ∈ ks then ks else ks ++ [k]) := by
  by_cases h : k ∈ ks
  · rw [if_pos h]
    unfold putD
    rw [if_pos (by rw [tKs_val]; exact decide_eq_true h)]
    unfold tKs
    rw [List.map_map]
    refine List.map_congr_left fun x _ => ?_
    show (if x = k then (x, PyData.bool true) else (x, .bool true)) = _
    split <;> rfl
  · rw [if_neg h, tKs_new h]
/-- an inner dict is written -/
theorem EG.put {F0 F B H : Hp} {σ : L2.St} {ρ : Rho} {ad : Lt → Addr} {ks : Lt → List Lt} {ls : List Lt} {l r : Lt} {o : HO} (e : EG P w K F0 F B H σ ρ ad ks ls) (hl : l ∈ ls) (h : (ldO P w K (putD (tKs (ks l)) r (.bool true))).p (ad l) B (upd H (ad l) o)) : EG P w K F0 (upd F (ad l) o) B (upd H (ad l) o) σ ρ ad (addK ks l r) ls := by
  obtain ⟨kv, h1, h2⟩ := e.at_ l hl
  obtain ⟨o1, ho1⟩ := ne_some h1.there
  refine ⟨e.evn.frmMut ho1, fun b u hb => ?_, e.nf, e.inj, fun k hk => ?_⟩
  · rw [upd_ne (fun z => by rw [z, e.nf l hl] at hb; cases hb)]
    exact e.sub b u hb
  · unfold addK
    by_cases z : k = l
    · subst z
      rw [if_pos rfl, ← tKs_put]
      refine (ldO P w K _).mono (Same.refl B) ?_ h
      rw [upd_same, upd_same]
    · rw [if_neg z]
      refine (ldO P w K _).mono (Same.refl B) ?_ (e.at_ k hk)
      rw [upd_ne (fun z2 => z (e.inj k hk l hl z2))]
end
end Fc
/-! FcIn: the dict of empty dicts. -/
namespace Fc
open PySem PySem.W PySem.Spec PyProof.Rows L2
theorem PI.any {X : Cx} {tg it : Expr} {ι : Sort _} {t : ι → TI} (h : ∀ i, PI X tg it (t i)) : PI X tg it (fun σ H R => ∃ i, t i σ H R) := ⟨fun pins s σ H R I ⟨i, h'⟩ => (h i).run pins s σ H R I h'⟩
section
variable {P : Program} {w : World} {K : PySem.W.Frag}
/-- midway: D holds new empty dicts for L -/
def SP (P : Program) (w : World) (K : PySem.W.Frag) (F0 B1 : Hp) (D : Addr) (τ : L2.St) (ρ : Rho) (L : List Lt) (H : Hp) : Prop :=
  ∃ F B ad oD, Same B1 B ∧ EG P w K F0 F B H τ ρ ad (fun _ => []) L ∧ F D = some oD ∧ F0 D = none ∧ (∀ k ∈ L, ad k ≠ D) ∧ LAt P w K B H D (L.map fun k => (k, V.ref (ad k)))
theorem val_mapV {f : Lt → V} : ∀ {L : List Lt} {k : Lt}, k ∉ L → valV (L.map fun k => (k, f k)) k = none
  | [], k, _ => rfl
  | x :: L, k, h => by
    rw [List.map_cons, valV_neg (fun e => h (by rw [← show x = k from e]; exact List.mem_cons_self))]
    exact val_mapV fun z => h (List.mem_cons_of_mem _ z)
theorem val_mapVs {f : Lt → V} : ∀ {L : List Lt} {k : Lt}, k ∈ L → valV (L.map fun k => (k, f k)) k = some (f k)
  | x :: L, k, h => by
    rw [List.map_cons]
    by_cases e : x = k
    · rw [valV_pos (show (x, f x).1 = k from e), e]
    · rw [valV_neg (show ¬ (x, f x).1 = k from e)]
      exact val_mapVs ((List.mem_cons.mp h).resolve_left fun z => e z.symm)
theorem SP.add {F0 B1 F B B3 H H3 : Hp} {D a : Addr} {τ τ0 : L2.St} {ρ ρ0 : Rho} {L : List Lt} {k : Lt} {ad : Lt → Addr} {oD o : HO} (s0 : Same B1 B) (s1 : Same B B3) (eg : EG P w K F0 F B H τ0 ρ0 ad (fun _ => []) L) (hF : F D = some oD) (h0 : F0 D = none) (hD : ∀ k ∈ L, ad k ≠ D) (hk : k ∉ L) (e3 : Evn F B3 H3 τ ρ) (f : Fresh F B3 H3 τ ρ a (ldO P w K [])) (hl : LAt P w K B3 (upd H3 D o) D (putK (L.map fun k => (k, V.ref (ad k))) k (.ref a))) : SP P w K F0 B1 D τ ρ (L ++ [k]) (upd H3 D o) := by
  obtain ⟨oa, ha⟩ := ne_some (Ow.there _ f.at_)
  have haD : a ≠ D := fun z => by
    have := f.nf
    rw [z, hF] at this
    cases this
  have hA : ∀ x ∈ L, ad x ≠ a := fun x hx z => by
    have := Ow.there _ (eg.at_ x hx)
    rw [z] at this
    exact this f.nf
  have hF0a : F0 a = none := by
    cases z : F0 a with
    | none => rfl
    | some u =>
      have := eg.sub a u z
      rw [f.nf] at this
      cases this
  refine ⟨upd (upd F a oa) D o, B3, fun x => if x = k then a else ad x, o, s0.trans s1, ⟨?_, ?_, ?_, ?_, ?_⟩, upd_same, h0, ?_, ?_⟩
  · exact (e3.keepFr f ha).frmMut (by rw [upd_ne (Ne.symm haD)]; exact hF)
  · intro b u hb
    rw [upd_ne (fun z => by rw [z, h0] at hb; cases hb), upd_ne (fun z => by rw [z, hF0a] at hb; cases hb)]
    exact eg.sub b u hb
  · intro x hx
    try dsimp only
    split
    · exact hF0a
    · rename_i z
      exact eg.nf x ((List.mem_append.mp hx).resolve_right fun y => z (List.mem_singleton.mp y))
  · intro x hx y hy h
    try dsimp only at h
    have hx' : x = k ∨ x ∈ L := (List.mem_append.mp hx).elim .inr fun y => .inl (List.mem_singleton.mp y)
    have hy' : y = k ∨ y ∈ L := (List.mem_append.mp hy).elim .inr fun y => .inl (List.mem_singleton.mp y)
    by_cases z : x = k
    · by_cases z2 : y = k
      · rw [z, z2]
      · rw [if_pos z, if_neg z2] at h
        exact absurd h.symm (hA y (hy'.resolve_left z2))
    · by_cases z2 : y = k
      · rw [if_neg z, if_pos z2] at h
        exact absurd h (hA x (hx'.resolve_left z))
      · rw [if_neg z, if_neg z2] at h
        exact eg.inj x (hx'.resolve_left z) y (hy'.resolve_left z2) h
  · intro x hx
    try dsimp only
    by_cases z : x = k
    · rw [if_pos z]
      refine (ldO P w K _).mono (Same.refl B3) ?_ f.at_
      rw [upd_ne haD, upd_same, ha]
    · rw [if_neg z]
      have hxL : x ∈ L := (List.mem_append.mp hx).resolve_right fun y => z (List.mem_singleton.mp y)
      refine (ldO P w K _).mono s1 ?_ (eg.at_ x hxL)
      rw [upd_ne (hD x hxL), upd_ne (hA x hxL)]
  · intro x hx
    try dsimp only
    by_cases z : x = k
    · rw [if_pos z]; exact haD
    · rw [if_neg z]
      exact hD x ((List.mem_append.mp hx).resolve_right fun y => z (List.mem_singleton.mp y))
  · rw [putK_new _ (val_mapV hk)] at hl
    have e : (L ++ [k]).map (fun x => (x, V.ref (if x = k then a else ad x))) = (L.map fun k => (k, V.ref (ad k))) ++ [(k, .ref a)] := by
      rw [List.map_append, List.map_singleton, if_pos rfl]
      congr 1
      refine List.map_congr_left fun x hx => ?_
      rw [if_neg (fun z => hk (by rw [← z]; exact hx))]
    rw [e]
    exact hl
theorem SP.from {F0 B0 B1 : Hp} {D : Addr} {τ : L2.St} {ρ : Rho} {L : List Lt} {H : Hp} (s : Same B0 B1) (h : SP P w K F0 B1 D τ ρ L H) : SP P w K F0 B0 D τ ρ L H := by
  obtain ⟨F, B, ad, oD, h1, h2⟩ := h
  exact ⟨F, B, ad, oD, s.trans h1, h2⟩
theorem SP.less {F0 B1 : Hp} {D : Addr} {τ τ' : L2.St} {ρ ρ' : Rho} {L : List Lt} {H : Hp} (h : SP P w K F0 B1 D τ ρ L H) (k : ∀ F B, Evn F B H τ ρ → Evn F B H τ' ρ') : SP P w K F0 B1 D τ' ρ' L H := by
  obtain ⟨F, B, ad, oD, h1, h2, h3⟩ := h
  exact ⟨F, B, ad, oD, h1, h2.base (Same.refl B) (k F B h2.evn), h3⟩
end
section
variable {X : Cx} {kx vx iter iter1 : Expr} {scope : Scope} {pos px py : Pos} {x y : Str} {ρ : Rho}
def lsOf (ns : List Str) : List Lt := ns.flatMap fun n => [(n, false), (n, true)]
theorem lsOf_len : ∀ ns : List Str, (lsOf ns).length = 2 * ns.length
  | [] => rfl
  | n :: ns => by
    show ((n, false) :: (n, true) :: lsOf ns).length = _
    rw [List.length_cons, List.length_cons, lsOf_len ns, List.length_cons]
    omega
/-- {(x, y): {} for x in names for y in (False, True)} -/
theorem e_ed (i j : Nat) (ns : List Str) (hu : X.A.units < cLine) (hN : X.N.Nodup) (hc : X.calm = true) (hi : PI X (.Name x px) iter (iD ρ ρ (ns.map fun n => dat X.K (.str n)))) (ok : BlkOk X.N X.env.scope scope [(x, i), (y, j)]) (hij : i ≠ j) (hni : ρ[i]? = some .no) (hnj : ρ[j]? = some .no) (hnd : ns.Nodup) (hz : ns.length < 1000)
    (hg : Blk X scope fun Y => PG Y (.Name x px) (gName i)) (hg1 : Blk X scope fun Y => PG Y (.Name y py) (gName j))
    (hi1 : ∀ n, Blk X scope fun Y => PI Y (.Name y py) iter1 (iD (ρ.set i (.per (dat X.K (.str n)))) (ρ.set i (.per (dat X.K (.str n)))) ([false, true].map fun b => dat X.K (.bool b))))
    (hk : ∀ p : Lt, Blk X scope fun Y => PE Y kx (tE ((ρ.set i (.per (dat X.K (.str p.1)))).set j (.per (dat X.K (.bool p.2)))) ((ρ.set i (.per (dat X.K (.str p.1)))).set j (.per (dat X.K (.bool p.2)))) (dat X.K (litD p))))
    (hv : ∀ p : Lt, Blk X scope fun Y => PE Y vx (tN ((ρ.set i (.per (dat X.K (.str p.1)))).set j (.per (dat X.K (.bool p.2)))) ((ρ.set i (.per (dat X.K (.str p.1)))).set j (.per (dat X.K (.bool p.2)))) (ldO X.prog X.w X.K [])))
    (hs : ∀ x, foldedSetIterable iter X.env x = pure x) (hs1 : ∀ env x, foldedSetIterable iter1 env x = pure x) :
    PE X (.DictComp kx vx [⟨.Name x px, iter, [], 0⟩, ⟨.Name y py, iter1, [], 0⟩] scope pos) (fun σ H Q => ∃ F0 B, Evn F0 B H σ ρ ∧ ∀ a F H' B' ad, Same B B' → EG X.prog X.w X.K F0 F B' H' σ ρ ad (fun _ => []) (lsOf ns) → Fresh F B' H' σ ρ a (edO X.prog X.w X.K ad (lsOf ns)) → Q (.ref a) H') := by
  let ρa : Str → Rho := fun n => ρ.set i (.per (dat X.K (.str n)))
  let ρb : Lt → Rho := fun p => (ρ.set i (.per (dat X.K (.str p.1)))).set j (.per (dat X.K (.bool p.2)))
  refine PE.weak (pe_dl2 hc hu hN hi ok (vs1 := [j]) (fun k hk => by rw [List.mem_singleton.mp hk]; exact List.mem_cons_of_mem _ List.mem_cons_self) hg (fun s H C cl fp => PTs.any (ι := Str) fun n => ts_nil (ρ := ρa n))
    (fun s H C cl fp => PI.any (ι := Str) fun n => hi1 n s H C cl fp) hg1 (fun s H C cl fp => PTs.any (ι := Lt) fun p => ts_nil (ρ := ρb p))
    (fun s H C cl fp => PE.any (ι := Lt) fun p => hk p s H C cl fp) (fun s H C cl fp => PE.any (ι := Lt) fun p => hv p s H C cl fp) hs hs1) fun σ H Q ⟨F0, B, e, q⟩ => ?_
  refine ⟨F0, B, e, fun J H1 B1 s1 e1 wk D o0 hD hl0 => ?_⟩
  have vsE : ([(x, i), (y, j)] : List (Str × Nat)).map (·.2) = [i, j] := rfl
  have hno : NoAt ρ [i, j] := NoAt.cons hni (NoAt.cons hnj NoAt.nil)
  refine ⟨fun m k H' => m + k = ns.length ∧ SP X.prog X.w X.K F0 B1 D (wipe σ [i, j]) ρ (lsOf (ns.take m)) H', ⟨ns.length, Nat.zero_add _, ?_⟩, ?_⟩
  · refine ⟨upd F0 D o0, B1, fun _ => 0, o0, Same.refl _, ⟨(e1.wiped hno).keepNew hD, fun b u hb => ?_, fun k hk => (nomatch hk), fun k hk => (nomatch hk), fun k hk => (nomatch hk)⟩, upd_same, e1.noF hD, fun k hk => (nomatch hk), ?_⟩
    · rw [upd_ne (fun z => by rw [z, e1.noF hD] at hb; cases hb)]
      exact hb
    · exact hl0 B1
  · rintro m k H2 ⟨hmk, F, B2, ad, oD, sb, eg, hFD, h0D, hadD, hLA⟩
    by_cases hlt : m < ns.length
    case neg =>
      obtain rfl : m = ns.length := by omega
      refine .inl ⟨?_, ?_⟩
      · have := wk.stop B2 H2 sb eg.evn.sp.bas
        rwa [List.length_map] at this
      · rw [List.take_length] at eg hadD hLA
        have e2 : Evn F B2 H2 σ ρ := eg.evn.unwiped hno (fun _ _ => rfl) rfl
        have e3 : Evn (dropA F D) B2 H2 σ ρ := e2.frmLess fun b u hb => by
          unfold dropA at hb
          split at hb
          · cases hb
          · exact hb
        refine q D (dropA F D) H2 B2 ad (s1.trans sb) ⟨e3, fun b u hb => ?_, eg.nf, eg.inj, fun k hk => ?_⟩ ⟨e2.sp.dis D oD hFD, if_pos rfl, fun l d hl hs => ?_, hLA⟩
        · unfold dropA
          rw [if_neg (fun z => by rw [z, h0D] at hb; cases hb)]
          exact eg.sub b u hb
        · refine (ldO X.prog X.w X.K _).mono (Same.refl B2) ?_ (eg.at_ k hk)
          exact if_neg (hadD k hk)
        · obtain ⟨b, g1, g2, g3, g4⟩ := e2.own l d hl
          rw [hs] at g1
          injection g1 with g1
          injection g1 with g1
          injection g1 with g1
          rw [← g1, hFD] at g3
          cases g3
    case pos =>
      let n := ns[m]
      have hn : ns[m]? = some n := List.getElem?_eq_getElem hlt
      have hr : (ns.map fun n => dat X.K (.str n))[m]? = some (dat X.K (.str n)) := by rw [List.getElem?_map, hn]; rfl
      have htk : lsOf (ns.take (m + 1)) = lsOf (ns.take m) ++ [(n, false), (n, true)] := by
        unfold lsOf
        rw [take_snoc hn, List.flatMap_append]
        rfl
      have hnm : n ∉ ns.take m := fun z => by
        have h1 : (ns.take (m + 1)).Nodup := hnd.sublist (List.take_sublist _ _)
        rw [take_snoc hn] at h1
        exact (List.nodup_append.mp h1).2.2 n z n List.mem_cons_self rfl
      have hnL : ∀ b, (n, b) ∉ lsOf (ns.take m) := fun b z => by
        obtain ⟨n', h1, h2⟩ := List.mem_flatMap.mp z
        have : n = n' := by
          rcases List.mem_cons.mp h2 with h2 | h2
          · injection h2
          · have := List.mem_singleton.mp h2
            injection this
        exact hnm (by rw [this]; exact h1)
      obtain ⟨hgo, hy⟩ := wk.go m _ B2 H2 hr sb eg.evn.sp.bas
      refine .inr ⟨hgo, fun H' => (m + 1) + (k - 1) = ns.length ∧ SP X.prog X.w X.K F0 B1 D (wipe σ [i, j]) ρ (lsOf (ns.take (m + 1))) H', fun H' hN => ⟨k - 1, by omega, hN⟩, fun z H3 y => ?_⟩
      obtain ⟨B3, g3, hx⟩ := hy z H3 y
      refine (tg_name (vs := [i, j]) (by simp)).run F B3 H3 (wipe σ [i, j]) z _ (eg.evn.grow g3) hx fun τ e5 hτ hl => ⟨wipe_eq hτ hl, n, F, B3, e5, fun H4 B4 s4 e6 => ?_⟩
      show (if true = true then _ else _)
      rw [if_pos rfl]
      refine ⟨n, F, B4, e6, fun J1 H5 B5 s5 e7 wk1 => ?_⟩
      have hnj' : (ρa n)[j]? = some .no := by
        show (ρ.set i _)[j]? = _
        rw [List.getElem?_set_ne hij]
        exact hnj
      have hnoj : NoAt (ρa n) [j] := NoAt.cons hnj' NoAt.nil
      have s25 : Same B2 B5 := (g3.bup.trans s4).trans s5
      have hlt' : ∀ q, (wipe τ [j])[q]? = if q ∈ [j] then (if q < τ.length then some none else none) else τ[q]? := fun q => wipe_get τ [j] q
      refine ⟨fun t k H' => t + k = 2 ∧ SP X.prog X.w X.K F0 B5 D (wipe τ [j]) (ρa n) (lsOf (ns.take m) ++ [(n, false), (n, true)].take t) H', ⟨2, rfl, ?_⟩, ?_⟩
      · rw [List.take_zero, List.append_nil]
        refine ⟨F, B5, ad, oD, Same.refl _, eg.base s25 (e7.wiped hnoj), hFD, h0D, hadD, hLA.mono s25 ?_⟩
        rw [e7.sp.frm D oD hFD, eg.evn.sp.frm D oD hFD]
      · rintro t k2 H6 ⟨htk2, F6, B6, ad6, o6, sb6, eg6, hF6, h06, had6, hLA6⟩
        by_cases ht : t < 2
        case neg =>
          obtain rfl : t = 2 := by omega
          refine .inl ⟨wk1.stop B6 H6 sb6 eg6.evn.sp.bas, by omega, ?_⟩
          rw [htk]
          have hsp : SP X.prog X.w X.K F0 B5 D (wipe τ [j]) (ρa n) (lsOf (ns.take m) ++ [(n, false), (n, true)]) H6 := ⟨F6, B6, ad6, o6, sb6, eg6, hF6, h06, had6, hLA6⟩
          refine (hsp.from (sb.trans s25)).less fun F B e => ?_
          have e2 : Evn F B H6 (wipe τ [j]) ρ := e.less (Sub.unset hni)
          have e3 := e2.wiped hno
          have hw : wipe (wipe τ [j]) [i, j] = wipe σ [i, j] := by
            refine wipe_eq (fun q hq => ?_) (by rw [wipe_length]; exact hl)
            rw [wipe_get, if_neg (fun z => hq (List.mem_cons_of_mem _ z))]
            exact hτ q hq
          rw [hw] at e3
          exact e3
        case pos =>
          obtain ⟨b, hb⟩ : ∃ b : Bool, [false, true][t]? = some b := ⟨[false, true][t], List.getElem?_eq_getElem ht⟩
          have hr1 : ([false, true].map fun b => dat X.K (.bool b))[t]? = some (dat X.K (.bool b)) := by rw [List.getElem?_map, hb]; rfl
          have htk3 : [(n, false), (n, true)].take (t + 1) = [(n, false), (n, true)].take t ++ [(n, b)] := by
            refine take_snoc ?_
            have : ([false, true].map fun b => (n, b))[t]? = some (n, b) := by rw [List.getElem?_map, hb]; rfl
            exact this
          have hnew : (n, b) ∉ lsOf (ns.take m) ++ [(n, false), (n, true)].take t := fun z => by
            rcases List.mem_append.mp z with z | z
            · exact hnL b z
            · match t, ht with
              | 0, _ => exact nomatch z
              | 1, _ =>
                have : b = true := by injection hb with hb; exact hb.symm
                subst this
                have := List.mem_singleton.mp z
                injection this with _ h
                cases h
          obtain ⟨hgo1, hy1⟩ := wk1.go t _ B6 H6 hr1 sb6 eg6.evn.sp.bas
          refine .inr ⟨hgo1, fun H' => (t + 1) + (k2 - 1) = 2 ∧ SP X.prog X.w X.K F0 B5 D (wipe τ [j]) (ρa n) (lsOf (ns.take m) ++ [(n, false), (n, true)].take (t + 1)) H', fun H' hN => ⟨k2 - 1, by omega, hN⟩, fun z1 H7 y1 => ?_⟩
          obtain ⟨B7, g7, hx1⟩ := hy1 z1 H7 y1
          refine (tg_name (vs := [j]) (by simp)).run F6 B7 H7 (wipe τ [j]) z1 _ (eg6.evn.grow g7) hx1 fun τ2 e8 hτ2 hl2 => ⟨wipe_eq hτ2 hl2, (n, b), F6, B7, e8, fun H8 B8 s8 e9 => ?_⟩
          show (if true = true then _ else _)
          rw [if_pos rfl]
          refine ⟨(n, b), F6, B8, e9, fun v H9 B9 s9 e10 hv => ⟨(n, b), F6, B9, e10, fun a H10 B10 s10 e11 f => ?_⟩⟩
          obtain ⟨b', rfl, hb'⟩ := dp_lit hv
          have s610 : Same B6 B10 := ((g7.bup.trans s8).trans s9).trans s10
          refine ⟨B10, _, (n, b), b', e11.sp.bas, rfl, same_t s10 hb', hLA6.mono s610 (by rw [e11.sp.frm D o6 hF6, eg6.evn.sp.frm D o6 hF6]), ?_, fun o ho => ⟨by omega, ?_⟩⟩
          · rw [List.length_map, List.length_append]
            rw [lsOf_len, sizeLine_eq, List.length_take, List.length_take]
            omega
          · rw [htk3, ← List.append_assoc]
            refine (SP.add sb6 s610 eg6 hF6 h06 had6 hnew e11 f ho).less fun F B e => ?_
            have e2 : Evn F B (upd H10 D o) τ2 (ρa n) := e.less (Sub.unset hnj')
            have e3 := e2.wiped hnoj
            rw [wipe_eq hτ2 hl2] at e3
            exact e3
end
end Fc
/-! FcIs: statements over dicts of dicts; fields of a new instance. -/
namespace Fc
open PySem PySem.W PySem.Spec PyProof.Rows L2
theorem PS.any {X : Cx} {st : Stmt} {ι : Sort _} {t : ι → TS} (h : ∀ i, PS X st (t i)) : PS X st (fun D σ H => ∃ i, t i D σ H) := ⟨fun pins s σ H D I ⟨i, h'⟩ => (h i).run pins s σ H D I h'⟩
section
variable {X : Cx} {k1 k2 e : Expr} {x : Str} {p p1 p2 pos : Pos} {ρ : (Lt → Addr) → Rho} {ls : List Lt} {l r : Lt}
theorem at_frame {P : Program} {w : World} {K : PySem.W.Frag} {F0 F B H : Hp} {σ : L2.St} {ρ : Rho} {ad : Lt → Addr} {ks : Lt → List Lt} (e : EG P w K F0 F B H σ ρ ad ks ls) (hl : l ∈ ls) : (ldO P w K (tKs (ks l))).p (ad l) B H := by
  have h := e.at_ l hl
  obtain ⟨o, ho⟩ := ne_some (Ow.there _ h)
  exact (ldO P w K _).mono (Same.refl B) (by rw [ho, e.evn.sp.frm _ o ho]) h
/-- x[k1][k2] = True -/
theorem s_edput (s : Nat) (hu : X.A.units + 1 < cLine) (hl : l ∈ ls) (hs : ∀ ad, (ρ ad)[s]? = some (.own (edO X.prog X.w X.K ad ls))) (h1 : ∀ ad, PE X k1 (tE (ρ ad) (ρ ad) (dat X.K (litD l)))) (h2 : ∀ ad, PE X k2 (tE (ρ ad) (ρ ad) (dat X.K (litD r)))) (he : ∀ ad, PE X e (tE (ρ ad) (ρ ad) (dat X.K (.bool true)))) (hN : X.N[s]? = some x) (hv : Vis X.env.scope x) (hd : (x == ("__debug__" : Str)) = false := by decide) (hcd : (x == ("__classdict__" : Str)) = false := by decide) (hpl : PlainIx k1 := by intro _ _; rfl)
    (ha : ∀ v, assign (.Subscript (.Subscript (.Name x p) k1 p1) k2 p2) X.env v = (do
      let ov ← holding [v] (eval (.Subscript (.Name x p) k1 p1) X.env)
      let iv ← holding [v, ov] (eval k2 X.env)
      standAt p2
      holding [v, ov, iv] (setItem ov iv v)
      release [v, ov, iv] []) := by intro _; rfl)
    (hsw : swapsWithSole [.Subscript (.Subscript (.Name x p) k1 p1) k2 p2] e pos.line X.env = pure false := by rfl) (hw : swappedStores [.Subscript (.Subscript (.Name x p) k1 p1) k2 p2] e X.env = pure none := by rfl)
    (has : (assignEach [.Subscript (.Subscript (.Name x p) k1 p1) k2 p2] X.env).map (·.2) = [assign (.Subscript (.Subscript (.Name x p) k1 p1) k2 p2) X.env] := by rfl) :
    PS X (.Assign [.Subscript (.Subscript (.Name x p) k1 p1) k2 p2] e pos) (fun D σ H => ∃ F0 F B ad ks, EG X.prog X.w X.K F0 F B H σ (ρ ad) ad ks ls ∧ (ks l).length < 1000 ∧ ∀ σ' H' B' F', Same B B' → EG X.prog X.w X.K F0 F' B' H' σ' (ρ ad) ad (addK ks l r) ls → D.nx σ' H') := by
  refine PS.weak (ps_asg (PE.any he) (pg_sub (pe_ix (ix_ld hu) (pe_var hN hv hd hcd) (PE.any h1) hpl) (PE.any h2) (ps_ld hu) ha) hsw hw has) fun D σ H ⟨F0, F, B, ad, ks, eg, few, q⟩ => ?_
  refine ⟨ad, F, B, eg.evn, fun v H1 B1 s1 e1 hv1 => ?_⟩
  obtain ⟨a, g1, g2, g3, g4⟩ := e1.own s _ (hs ad)
  refine ⟨_, g1, ad, F, B1, e1, fun y H2 B2 s2 e2 hy => ?_⟩
  obtain ⟨b, rfl, hb⟩ := dp_lit hy
  obtain ⟨a', g1', g2', g3', g4'⟩ := e2.own s _ (hs ad)
  obtain rfl : a = a' := by
    rw [g1] at g1'
    injection g1' with z
    injection z with z
    injection z
  refine ⟨B2, a, b, _, l, .ref (ad l), rfl, rfl, e2.sp.bas, g4', hb, val_mapVs hl, ?_⟩
  refine ⟨ad, F, B2, e2, fun z H3 B3 s3 e3 hz => ?_⟩
  obtain ⟨b2, rfl, hb2⟩ := dp_lit hz
  have eg3 := eg.base ((s1.trans s2).trans s3) e3
  obtain ⟨kv, hl1, dv⟩ := at_frame eg3 hl
  refine ⟨B3, ad l, b2, kv, r, rfl, rfl, e3.sp.bas, hl1, hb2, ?_, fun u hu2 => ?_⟩
  · rw [dv_len dv, sizeLine_eq]
    unfold tKs
    rw [List.length_map]
    omega
  · exact q σ _ B3 _ ((s1.trans s2).trans s3) (eg3.put hl ⟨_, hu2, dv.put r (dp_mono (s2.trans s3) _ _ hv1)⟩)
end
section
variable {X : Cx} {x : Str} {pos p' : Pos} {ρ : Rho} {ls : List Lt} {e : Expr}
/-- x = the dict of empty dicts -/
theorem s_ed (s : Nat) (he : PE X e (fun σ H Q => ∃ F0 B, Evn F0 B H σ ρ ∧ ∀ a F H' B' ad, Same B B' → EG X.prog X.w X.K F0 F B' H' σ ρ ad (fun _ => []) ls → Fresh F B' H' σ ρ a (edO X.prog X.w X.K ad ls) → Q (.ref a) H')) (hN : X.N.Nodup) (hi : X.N[s]? = some x) (hx : Loc X.env.scope x) (hs : swapsWith e (some (.Name x p')) pos.line X.env = pure false) (hf : X.fn x = true ∨ X.env.scope.names.lookup x = some .local) :
    PS X (.Assign [.Name x p'] e pos) (fun D σ H => ∃ F0 B, Evn F0 B H σ ρ ∧ ∀ σ' H' B' F ad, Same B B' → EG X.prog X.w X.K F0 F B' H' σ' (ρ.set s (.own (edO X.prog X.w X.K ad ls))) ad (fun _ => []) ls → D.nx σ' H') :=
  PS.weak (ps_set hN hi hx he hs hf) fun D σ H ⟨F0, B, e, q⟩ => ⟨F0, B, e, fun a F H' B' ad s1 eg f => q _ H' B' F ad s1 (eg.base (Same.refl B') (eg.evn.hold f))⟩
/-- no more stores: all is shared -/
theorem un_ed {P : Program} {w : World} {K : PySem.W.Frag} {F0 F B H : Hp} {σ : L2.St} {ρ : Rho} {ad : Lt → Addr} {ks : Lt → List Lt} (s : Nat) (hs : ρ[s]? = some (.own (edO P w K ad ls))) (hnd : ls.Nodup) (eg : EG P w K F0 F B H σ ρ ad ks ls) : ∃ B', Same B B' ∧ Evn F0 B' H σ (ρ.set s (.per (edR P w K (fun k => tKs (ks k)) ls))) := by
  obtain ⟨F', B', s1, e1, h1, h2, h3⟩ := share_all ad (fun k => tKs (ks k)) ls F B eg.evn hnd eg.sub eg.nf eg.inj eg.at_
  obtain ⟨a, g1, g2, g3, g4⟩ := e1.own s _ hs
  obtain ⟨o, ho⟩ := ne_some (Ow.there _ g4)
  have sB : Same B' (upd B' a o) := same_new g2
  obtain ⟨s2, e2⟩ := e1.freeze (r := edR P w K (fun k => tKs (ks k)) ls) hs g1 ho ⟨a, ad, rfl, LAt.mono g4 sB (by rw [upd_same, ho]), fun k hk => (ldR P w K _).mono sB (h3 k hk)⟩
  exact ⟨_, s1.trans s2, e2.frmLess h1⟩
/-! a shared dict of dicts read -/
theorem opd_edGet {P : Program} {w : World} {K : PySem.W.Frag} {kvs : Lt → List (Lt × PyData)} {l : Lt} (hl : l ∈ ls) : Opd (rLdGet P w K) (edR P w K kvs ls) (dat K (litD l)) (ldR P w K (kvs l)) := fun B H x y Q s ⟨a, ad, e, hx, h⟩ hy q => by
  obtain ⟨b, rfl, hb⟩ := dp_lit hy
  exact ⟨B, a, b, _, l, .ref (ad l), e, rfl, s, at_base s hx, hb, val_mapVs hl, q _ B H (Grow.refl s) (h l hl)⟩
theorem i_ed {tg : Expr} {ρ1 : Rho} {kvs : Lt → List (Lt × PyData)} (h : PE X e (tE ρ ρ1 (edR X.prog X.w X.K kvs ls))) : PI X tg e (iD ρ ρ1 (ls.map fun l => dat X.K (litD l))) := by
  refine PI.weak (pi_lk h) fun σ H R ⟨F, B, ev, q⟩ => ⟨F, B, ev, fun v H1 B1 s1 e1 ⟨a, ad, hv, hl, _⟩ => ?_⟩
  obtain ⟨xs, ep, h1, h2, h3⟩ := hl.ex
  have lo := hl.lo
  refine ⟨a, xs, ep, hv, lo, e1.sp.bas _ _ h1, q _ H1 B1 s1 e1 ⟨fun i r B2 H2 h s2 s3 => ?_, fun B2 H2 s2 s3 => ?_⟩⟩
  · obtain ⟨l, hli, rfl⟩ := map_get' h
    have hq : (ls.map fun k => (k, V.ref (ad k)))[i]? = some (l, V.ref (ad l)) := by rw [List.getElem?_map, hli]; rfl
    obtain ⟨z, hz, e2, ht, _⟩ := pr_get1 h3 hq
    have hlt := (List.getElem?_eq_some_iff.mp hz).1
    refine ⟨⟨s3 _ _ (s2 _ _ h1), hlt⟩, fun y H3 ⟨e3, z2, hz2, e4⟩ => ?_⟩
    subst e3; subst e4
    rw [hz] at hz2
    cases hz2
    refine ⟨B2, Grow.refl s3, ?_⟩
    exact Dp.tup (same_t s2 ht) (.cons (.str _) (.cons (.bl _) .nil))
  · exact ⟨s3 _ _ (s2 _ _ h1), by rw [List.length_map, ← Paired.length h3, List.length_map]; exact Nat.le_refl _⟩
end
/-! ### a new instance -/
/-- an instance of C at x whose fields are read by fs -/
def insO (x : Addr) (C : Addr) (fs : List (Str × Rp)) : Ow where
  p := fun a B H => a = x ∧ ∃ dx us, H a = some (.ins C dx us) ∧ Paired (fun (u : Str × V) p => u.1 = p.1 ∧ p.2.p u.2 B) us fs
  there := fun ⟨_, _, _, h, _⟩ => some_ne h
  mono := fun s e ⟨hx, dx, us, h, r⟩ => ⟨hx, dx, us, by rw [e]; exact h, Paired.mapP r fun _ _ h => ⟨h.1, Rp.mono _ s h.2⟩⟩
def atR (r : Rp) (x : Addr) : Rp := ⟨fun v B => v = .ref x ∧ r.p v B, fun s ⟨h, k⟩ => ⟨h, r.mono s k⟩⟩
theorem putF_new {f : Str} {y : V} : ∀ {us : List (Str × V)}, (∀ u ∈ us, u.1 ≠ f) → putF f y us = us ++ [(f, y)]
  | [], _ => rfl
  | (g, z) :: us, h => by
    unfold putF
    rw [if_neg (h _ List.mem_cons_self), putF_new fun u hu => h u (List.mem_cons_of_mem _ hu)]
    rfl
theorem Paired.left {α β : Type} {F : α → β → Prop} : ∀ {l₁ : List α} {l₂ : List β}, Paired F l₁ l₂ → ∀ a ∈ l₁, ∃ b ∈ l₂, F a b
  | _, _, .nil, a, h => (nomatch h)
  | _, _, .cons h t, a, m => by
    rcases List.mem_cons.mp m with rfl | m
    · exact ⟨_, List.mem_cons_self, h⟩
    · obtain ⟨b, h1, h2⟩ := Paired.left t a m
      exact ⟨b, List.mem_cons_of_mem _ h1, h2⟩
section
variable {X : Cx} {e : Expr} {x f : Str} {pos p p' : Pos} {ρ ρ1 : Rho} {r : Rp} {C x0 : Addr} {fs : List (Str × Rp)}
/-- self.f = e, a new field -/
theorem s_fld (i : Nat) (he : PE X e (tE ρ ρ1 r)) (c : Cls X.K C) (n : NoAttr X.K C f) (hnew : ∀ p ∈ fs, p.1 ≠ f) (few : fs.length < 1000) (hi : ρ1[i]? = some (.own (insO x0 C fs)) := by rfl) (hN : X.N[i]? = some x := by rfl) (hv : Vis X.env.scope x := by first | exact Or.inl rfl | exact Or.inr (Or.inl rfl) | exact Or.inr (Or.inr rfl)) (hd : (x == ("__debug__" : Str)) = false := by decide) (hcd : (x == ("__classdict__" : Str)) = false := by decide)
    (hs : swapsWith e (some (.Attribute (.Name x p) f p')) pos.line X.env = pure false := by rfl) : PS X (.Assign [.Attribute (.Name x p) f p'] e pos) (tS ρ (.nx (ρ1.set i (.own (insO x0 C (fs ++ [(f, r)])))))) :=
  PS.weak (ps_fld (pe_var hN hv hd hcd) he hs) fun D σ H ⟨F, B, ev, q⟩ => ⟨F, B, ev, fun v H1 B1 s1 e1 hr => by
    obtain ⟨a, g1, g2, g3, hx, dx, us, h1, h2⟩ := e1.own i _ hi
    refine ⟨_, g1, a, C, dx, us, rfl, h1, c, n, by rw [Paired.length h2]; exact few, q σ _ B1 s1 (e1.mut (d := insO x0 C (fs ++ [(f, r)])) hi g1 ⟨hx, dx, us ++ [(f, v)], ?_, Paired.snoc h2 ⟨rfl, hr⟩⟩)⟩
    rw [upd_same, putF_new fun u hu => ?_]
    obtain ⟨b, hb1, hb2⟩ := Paired.left h2 u hu
    rw [hb2.1]
    exact hnew b hb1⟩
end
/-- the promise of an __init__ -/
def spMk {ι : Type} (C : Addr) (pre : ι → Prop) (rs : ι → List Rp) (r : ι → Rp) : Sp := fun vs H Q _ => ∃ i, pre i ∧ ∃ F B x tl, vs = V.ref x :: tl ∧ Split F B H ∧ B x = none ∧ F x = none ∧ (insO x C []).p x B H ∧ Reps (rs i) tl B ∧ ∀ H' B', Same B B' → Split F B' H' → (r i).p (.ref x) B' → Q .non H'
section
variable {P : Program} {w : World} {K : PySem.W.Frag} {mg : Str → Option Value} {base : Heap}
theorem mk_start {F B H : Hp} (s : Split F B H) {rs : List Rp} {vs : List V} (hv : Reps rs vs B) {x : Addr} {c : Ow} (hB : B x = none) (hF : F x = none) (hc : c.p x B H) (n : Nat) : Evn F B H (some (V.ref x) :: (vs.map some ++ List.replicate n none)) (Sl.own c :: (rs.map Sl.per ++ List.replicate n .no)) := by
  have e := spl_start s hv n
  refine ⟨s, by rw [List.length_cons, List.length_cons, e.len], fun i r h => ?_, fun i d h => ?_, fun i j d d' a h1 h2 h3 h4 => ?_⟩
  · cases i with
    | zero => cases h
    | succ i => exact e.per i r h
  · cases i with
    | zero =>
      cases h
      exact ⟨x, rfl, hB, hF, hc⟩
    | succ i => exact e.own i d h
  · have key : ∀ (i : Nat) (d : Ow), (rs.map Sl.per ++ List.replicate n Sl.no)[i]? = some (Sl.own d) → False := fun i d h => by
      have := List.mem_of_getElem? h
      rcases List.mem_append.mp this with z | z
      · obtain ⟨r, _, hr⟩ := List.mem_map.mp z
        cases hr
      · have := List.eq_of_mem_replicate z
        cases this
    cases i with
    | succ i => exact (key i d h1).elim
    | zero =>
      cases j with
      | succ j => exact (key j d' h2).elim
      | zero => rfl
theorem fn_mk {x qual : Str} {st : Stmt} {f : Addr} {fd : FuncData} {N ps : List Str} {k : Nat} {ι : Type} {C : Addr} {pre : ι → Prop} {rs : ι → List Rp} {r : ι → Rp} (F : Fun K x qual st f fd) (S : FnScope N ps (defScope st)) (hl : ∀ i, (rs i).length + 1 = ps.length)
    (body : ∀ (cdv : Value) (A : Around) (outer : List PySem.Env) (s : Shared) (H : Hp) (E : XK) (i : ι) (x0 : Addr), Room k (A.deeper (envOfC qual (defScope st) s.heap.objs.size f cdv)) → pre i →
      ∃ ρ', PSs (cxD P w K mg base N qual st f cdv A outer s H E) (defBody st) (tS (Sl.own (insO x0 C []) :: ((rs i).map Sl.per ++ List.replicate (N.length - ps.length) .no)) (.nx ρ')) ∧ ρ'[0]? = some (.per (atR (r i) x0))) :
    FnOk P w K mg base CX0 (k + 1) f fd ps (spMk C pre rs r) := by
  refine F.ok S (fun vs H Q E ⟨i, _, F, B, x, tl, e, _, _, _, _, hv, _⟩ => by rw [e, List.length_cons, hv.length]; exact hl i) (fun cdv A outer s H vs Q E hr ⟨i, hp, Fr, B, x, tl, ev, sp, hB, hF, hc, hv, q⟩ => ?_)
  subst ev
  obtain ⟨ρ', hb, ho⟩ := body cdv A outer s H E i x hr hp
  refine ⟨_, hb, ?_⟩
  have e := mk_start sp hv hB hF hc (N.length - ps.length)
  have hst : L2.start N (V.ref x :: tl) = some (.ref x) :: (tl.map some ++ List.replicate (N.length - ps.length) none) := by
    unfold L2.start
    rw [List.length_cons, hv.length, hl i]
    rfl
  rw [hst]
  refine ⟨Fr, B, e, fun σ' H' B' s e' => ?_⟩
  obtain ⟨v, g1, rfl, g2⟩ := e'.per 0 _ ho
  exact q H' B' s e'.sp g2
end
section
variable {X : Cx} {C : Addr} {k : Nat} {f : Addr} {fd : FuncData} {ps : List Str} {p pos : Pos} {e : Expr} {es : List Expr} {ρ ρ1 : Rho} {rs : List Rp} {x : Str} {ι : Type} {pre : ι → Prop} {rsf : ι → List Rp} {rf : ι → Rp} {r : Rp}
/-- C(..) -/
theorem d_make (M : Mk X.K C f) (F : FnOk X.prog X.w X.K X.mg X.base CX0 k f fd ps (spMk C pre rsf rf)) (i : ι) (hp : pre i) (hr : Room (k + 1) X.A) (hg : Gl X x) (hm : X.mg x = some (.ref C)) (hb : Binds X.K fd ps []) (ha : PA X (e :: es) (tAs ρ ρ1 rs)) (h1 : rsf i = rs) (h2 : rf i = r)
    (hdb : (x == ("__debug__" : Str)) = false := by decide) (he : starEach (e :: es) X.env = (false, eval e X.env) :: starEach es X.env := by rfl) (hpl : (backTo pos (starEach es X.env)).any (·.1) = false := by rfl) :
    PE X (.Call (.Name x p) (e :: es) [] pos) (tE ρ ρ1 r) := by
  subst h1 h2
  refine PE.weak (pe_make (E := fun _ _ _ => False) M F hr hg hm hb (.nil : Vals [] []) pass0 ha hdb he hpl) fun σ H Q ⟨Fr, B, ev, q⟩ => ⟨Fr, B, ev, fun vs H1 B1 s1 e1 hvs x dx hx hdx hne => ?_⟩
  have sp1 : Split (rest B1 H1) B1 (upd (upd H1 dx (.own x)) x (.ins C dx [])) := (e1.sp.rest.grow (Grow.lone e1.sp.bas hdx)).grow (Grow.lone (e1.sp.bas.trans (same_new hdx)) (by rw [upd_ne (Ne.symm hne)]; exact hx))
  refine ⟨i, hp, rest B1 H1, B1, x, vs, by rw [List.append_nil], sp1, free_back e1.sp.bas hx, ?_, ⟨rfl, dx, [], upd_same, .nil⟩, hvs, fun H' B' s sp hr => ⟨rfl, q (.ref x) H' B' (s1.trans s) (e1.back s sp) hr⟩⟩
  cases z : rest B1 H1 x with
  | none => rfl
  | some u =>
    have := (rest_some z).2
    rw [hx] at this
    cases this
end
end Fc
/-! FcIt: ImplicationGraph.__init__, graph_of. -/
namespace Fc
open PySem PySem.W PySem.Spec PyProof.Rows L2
section
variable {X : Cx} {tg iter : Expr} {bd : List Stmt} {pos : Pos} {items : List Rp} {g : TG} {vs : List Nat} {ls : List Lt} {ρ : (Lt → Addr) → Rho}
theorem s_forG (hi : ∀ ad, PI X tg iter (iD (ρ ad) (ρ ad) items)) (hg : PG X tg g) (ρb : (Lt → Addr) → Nat → Rho) (ht : ∀ ad i r, items[i]? = some r → Tg g vs (ρ ad) r (ρb ad i)) (kf : Nat → Lt → List Lt)
    (body : ∀ (i : Nat) r, items[i]? = some r → PSs X bd (fun D σ H => ∃ F0 F B ad, EG X.prog X.w X.K F0 F B H σ (ρb ad i) ad (kf i) ls ∧ ∀ σ' H' B' F', Same B B' → EG X.prog X.w X.K F0 F' B' H' σ' (ρ ad) ad (kf (i + 1)) ls → D.nx σ' H'))
    (hp : PassesOwn (model X.prog X.w) X.A X.env X.xe := by exact PassesOwn.never) (hc : X.calm = true := by rfl) (hs : ∀ x, foldedSetIterable iter X.env x = pure x := by intro _; rfl) :
    PS X (.For tg iter bd [] pos) (fun D σ H => ∃ F0 F B ad, EG X.prog X.w X.K F0 F B H σ (ρ ad) ad (kf 0) ls ∧ ∀ σ' H' B' F', Same B B' → EG X.prog X.w X.K F0 F' B' H' σ' (ρ ad) ad (kf items.length) ls → D.nx σ' H') := by
  let ι := { i : Nat // i < items.length }
  have hb := PSs.any fun i : ι => body i.1 _ (List.getElem?_eq_getElem i.2)
  refine PS.weak (ps_for hp hc (PI.any hi) hg hb hs) fun D σ H ⟨F0, F, B, ad, eg, q⟩ => ⟨ad, F, B, eg.evn, fun J H1 B1 s1 e1 wk => ?_⟩
  refine ⟨fun i n σ H => ∃ B' F', Same B1 B' ∧ EG X.prog X.w X.K F0 F' B' H σ (ρ ad) ad (kf i) ls ∧ i + n = items.length, ⟨items.length, B1, F, Same.refl _, eg.base s1 e1, Nat.zero_add _⟩, ?_⟩
  rintro i n σ2 H2 ⟨B2, F2, s2, eg2, hn⟩
  by_cases hlt : i < items.length
  · have hr : items[i]? = some items[i] := List.getElem?_eq_getElem hlt
    obtain ⟨hgo, hy⟩ := wk.go i _ B2 H2 hr s2 eg2.evn.sp.bas
    refine .inr ⟨hgo, fun σ' H' => ∃ B' F', Same B1 B' ∧ EG X.prog X.w X.K F0 F' B' H' σ' (ρ ad) ad (kf (i + 1)) ls ∧ (i + 1) + (n - 1) = items.length, fun σ' H' hN => ⟨n - 1, by omega, hN⟩, fun x H3 y => ?_⟩
    obtain ⟨B3, g3, hx⟩ := hy x H3 y
    exact (ht ad i _ hr).run F2 B3 H3 σ2 x _ (eg2.evn.grow g3) hx fun τ e4 _ _ => ⟨⟨i, hlt⟩, F0, F2, B3, ad, eg2.base g3.bup e4, fun σ' H' B' F' s' eg' => ⟨B', F', (s2.trans g3.bup).trans s', eg', by omega⟩⟩
  · obtain rfl : i = items.length := by omega
    exact .inl ⟨wk.stop B2 H2 s2 eg2.evn.sp.bas, q σ2 H2 B2 F2 (s1.trans s2) eg2⟩
end
/-! ### the mirror -/
def kStep (ks : Lt → List Lt) (c : Cl) : Lt → List Lt := addK (addK ks (neg (litsOf c).1) (litsOf c).2) (neg (litsOf c).2) (litsOf c).1
def kOf (cs : List Cl) : Lt → List Lt := cs.foldl kStep fun _ => []
theorem addK_len {ks : Lt → List Lt} {l r : Lt} {n : Nat} (h : ∀ k, (ks k).length ≤ n) (k : Lt) : (addK ks l r k).length ≤ n + 1 := by
  unfold addK
  have := h k
  split
  · rename_i e
    subst e
    split
    · omega
    · rw [List.length_append]
      show _ + 1 ≤ _
      omega
  · omega
theorem addK_nd {ks : Lt → List Lt} {l r : Lt} (h : ∀ k, (ks k).Nodup) (k : Lt) : (addK ks l r k).Nodup := by
  unfold addK
  split
  · rename_i e
    subst e
    split
    · exact h k
    · rename_i hn
      exact List.nodup_append.mpr ⟨h k, by simp, fun x hx y hy e => hn (by rw [← List.mem_singleton.mp hy, ← e]; exact hx)⟩
  · exact h k
theorem addK_mem {ks : Lt → List Lt} {l r k x : Lt} : x ∈ addK ks l r k ↔ x ∈ ks k ∨ (k = l ∧ x = r) := by
  unfold addK
  by_cases e : k = l
  · subst e
    rw [if_pos rfl]
    by_cases h : r ∈ ks k
    · rw [if_pos h]
      exact ⟨.inl, fun z => z.elim id fun z => by rw [z.2]; exact h⟩
    · rw [if_neg h, List.mem_append, List.mem_singleton]
      exact ⟨fun z => z.imp id fun z => ⟨rfl, z⟩, fun z => z.imp id fun z => z.2⟩
  · rw [if_neg e]
    exact ⟨.inl, fun z => z.elim id fun z => absurd z.1 e⟩
theorem kOf_snoc {cs : List Cl} {i : Nat} {c : Cl} (h : cs[i]? = some c) : kOf (cs.take (i + 1)) = kStep (kOf (cs.take i)) c := by
  unfold kOf
  rw [take_snoc h, List.foldl_append]
  rfl
theorem kOf_all : ∀ (cs : List Cl) (ks : Lt → List Lt) (n : Nat), (∀ k, (ks k).length ≤ n) → (∀ k, (ks k).Nodup) → (∀ k, (cs.foldl kStep ks k).length ≤ n + 2 * cs.length) ∧ (∀ k, (cs.foldl kStep ks k).Nodup) ∧ ∀ k x, x ∈ cs.foldl kStep ks k ↔ x ∈ ks k ∨ x ∈ cs.flatMap (tg1 k)
  | [], ks, n, h, d => ⟨h, d, fun k x => ⟨.inl, fun z => z.elim id fun z => nomatch z⟩⟩
  | c :: cs, ks, n, h, d => by
    obtain ⟨h1, h2, h3⟩ := kOf_all cs (kStep ks c) (n + 2) (addK_len (addK_len h)) (addK_nd (addK_nd d))
    refine ⟨fun k => ?_, h2, fun k x => ?_⟩
    · have := h1 k
      rw [List.foldl_cons, List.length_cons]
      omega
    · rw [List.foldl_cons, h3, List.flatMap_cons, List.mem_append, ← or_assoc]
      refine or_congr ?_ Iff.rfl
      unfold kStep
      rw [addK_mem, addK_mem, or_assoc]
      refine or_congr Iff.rfl ?_
      unfold tg1
      rw [List.mem_append]
      refine or_congr ?_ ?_
      · split
        · rename_i e
          rw [List.mem_singleton]
          exact ⟨fun z => z.2, fun z => ⟨e.symm, z⟩⟩
        · rename_i e
          exact ⟨fun z => absurd z.1.symm e, fun z => nomatch z⟩
      · split
        · rename_i e
          rw [List.mem_singleton]
          exact ⟨fun z => z.2, fun z => ⟨e.symm, z⟩⟩
        · rename_i e
          exact ⟨fun z => absurd z.1.symm e, fun z => nomatch z⟩
theorem kOf_succ (g : Gm) (l : Lt) : sortT (kOf g.cls l) = succ g l := by
  obtain ⟨_, h2, h3⟩ := kOf_all g.cls (fun _ => []) 0 (fun _ => Nat.le_refl _) fun _ => List.nodup_nil
  refine sortT_congr ((List.perm_ext_iff_of_nodup (h2 l) (dd_nodup _)).mpr fun x => ?_)
  rw [dd_mem]
  refine (h3 l x).trans ?_
  exact ⟨fun z => z.elim (fun z => nomatch z) id, .inr⟩
theorem lsOf_nodup : ∀ {ns : List Str}, ns.Nodup → (lsOf ns).Nodup
  | [], _ => List.nodup_nil
  | n :: ns, h => by
    obtain ⟨h1, h2⟩ := List.nodup_cons.mp h
    have hn : ∀ b, (n, b) ∉ lsOf ns := fun b z => by
      obtain ⟨n', h3, h4⟩ := List.mem_flatMap.mp z
      have : n = n' := by
        rcases List.mem_cons.mp h4 with h4 | h4
        · injection h4
        · have := List.mem_singleton.mp h4
          injection this
      exact h1 (by rw [this]; exact h3)
    show ((n, false) :: (n, true) :: lsOf ns).Nodup
    refine List.nodup_cons.mpr ⟨fun z => ?_, List.nodup_cons.mpr ⟨hn true, lsOf_nodup h2⟩⟩
    rcases List.mem_cons.mp z with z | z
    · injection z with _ z
      cases z
    · exact hn false z
end Fc
/-! FcIu: ImplicationGraph.__init__, graph_of. -/
namespace Fc
open PySem PySem.W PySem.Spec PyProof.Rows L2
section
variable {P : Program} {w : World} {K : PySem.W.Frag} {mg : Str → Option Value} {base : Heap}
theorem sh_gr {C x0 : Addr} {g : Gm} : Shares (insO x0 C [(("successors" : Str), ldR P w K (succL g))]) (atR (grR P w K C g) x0) := fun a B H hB ⟨hx, dx, us, h1, h2⟩ => by
  subst hx
  cases h2 with
  | cons h t =>
    cases t
    rename_i u
    obtain ⟨u1, u2⟩ := u
    obtain ⟨rfl, hr⟩ := h
    exact ⟨_, h1, rfl, a, dx, u2, rfl, upd_same, Rp.mono _ (same_new hB) hr⟩
abbrev sp_graph (P : Program) (w : World) (K : PySem.W.Frag) (C : Addr) : Sp := spMk (ι := Gm) C GmOk (fun g => [dat K (.list (g.names.map .str)), dat K (.tuple (g.cls.map clD))]) (fun g => grR P w K C g)
abbrev NI : List Str := ["self", "names", "clauses", "edges", "name", "truth", "clause", "left", "right", "literal"]
theorem ok_graph_init (T : Txt K mg) : FnOk P w K mg base CX0 2 T.ImplicationGraph_init.a T.ImplicationGraph_init.d ["self", "names", "clauses"] (sp_graph P w K T.C_ImplicationGraph) := by
  have nd := sc_ImplicationGraph_init.nd
  refine fn_mk T.ImplicationGraph_init.F sc_ImplicationGraph_init (fun _ => rfl) (fun cdv A outer s H E g x0 hr hg => ?_)
  have hu := hu_of hr
  have hu0 := hr.units0
  have h128 := hu128 hr
  have hlen : 1 ≤ g.ops.length ∧ g.ops.length ≤ 5 := GmOk.len hg
  have hnl : g.names.length = g.ops.length := List.length_map _
  have hnd : (lsOf g.names).Nodup := lsOf_nodup hg.nd
  obtain ⟨k1, k2, k3⟩ := kOf_all g.cls (fun _ => []) 0 (fun _ => Nat.le_refl _) fun _ => List.nodup_nil
  let ρ0 : Rho := [.own (insO x0 T.C_ImplicationGraph []), .per (dat K (.list (g.names.map .str))), .per (dat K (.tuple (g.cls.map clD))), .no, .no, .no, .no, .no, .no, .no]
  let ρe : (Lt → Addr) → Rho := fun ad => ρ0.set 3 (.own (edO P w K ad (lsOf g.names)))
  let ρ3 : Rho := ρ0.set 3 (.per (edR P w K (fun k => tKs (kOf g.cls k)) (lsOf g.names)))
  let X := cxD P w K mg base NI ("ImplicationGraph.__init__" : Str) s_ImplicationGraph_init T.ImplicationGraph_init.a cdv A outer s H E
  refine ⟨(ρ3.set 0 (.own (insO x0 T.C_ImplicationGraph [(("successors" : Str), ldR P w K (succL g))]))).set 0 (.per (atR (grR P w K T.C_ImplicationGraph g) x0)), PSs.weak (pss_cons (s_ed (ρ := ρ0) (ls := lsOf g.names) 3 ?e1 nd rfl ?l1 rfl (.inl rfl)) (pss_cons (s_forG (ρ := ρe) (ls := lsOf g.names) (vs := [6]) (items := g.cls.map fun c => dat K (clD c)) ?i2 (pg_name (i := 6) nd rfl (.inl rfl)) (fun ad i => (ρe ad).set 6 (.per (dat K ((g.cls[i]?.map clD).getD .none)))) ?t2 (fun i => kOf (g.cls.take i)) ?b2)
    (b_cons (s_fld (r := ldR P w K (succL g)) (x0 := x0) (fs := []) (f := "successors") 0 (d_share (n_dlT (X := X) (ρ := ρ3) (ρ0 := ρ3) (xs := lsOf g.names) (ky := id) (f := fun l => .list ((succ g l).map litD)) (dl_one (lsOf g.names) (fun l => dat K (litD l)) (fun l => litD l) (fun l => .list ((succ g l).map litD)) 9 (i_ed (d_var 3)) (blkOk_by (N := NI) (sc := defScope s_ImplicationGraph_init) (by decide +kernel)) (fun _ _ _ _ _ => pg_name (i := 9) nd rfl (.inl rfl)) rfl (by rw [lsOf_len]; omega) (fun l _ _ _ _ _ _ => d_var 9) ?v3) hu0) ?shr) T.cl_ImplicationGraph T.n_ImplicationGraph_successors (fun _ h => nomatch h) (by decide)) (b_share 0 (sh_gr (P := P) (w := w) (K := K) (C := T.C_ImplicationGraph) (x0 := x0) (g := g)) b_nil)))) ?fin, rfl⟩
  case l1 => exact .inr rfl
  case e1 =>
    exact e_ed 4 5 g.names hu0 nd rfl (i_listT (d_var 1)) (blkOk_by (N := NI) (sc := defScope s_ImplicationGraph_init) (by decide +kernel)) (by decide) rfl rfl hg.nd (by omega)
      (fun _ _ _ _ _ => pg_name (i := 4) nd rfl (.inl rfl)) (fun _ _ _ _ _ => pg_name (i := 5) nd rfl (.inl rfl))
      (fun n _ _ _ _ _ => i_tupT (xs := [false, true]) (f := fun b => .bool b) (d_tup (ds := [.bool false, .bool true]) (a_cons d_bl (a_cons d_bl a_nil))))
      (fun p _ _ _ _ _ => d_tup (ds := [.str p.1, .bool p.2]) (a_cons (d_var 4) (a_cons (d_var 5) a_nil)))
      (fun p _ _ _ _ _ => n_ld0) (by intro _; rfl) (by intro _ _; rfl)
  case i2 => exact fun ad => i_tupT (d_var 2)
  case t2 =>
    intro ad i r h
    obtain ⟨c, hc, _, rfl⟩ := get_map h
    try dsimp only
    rw [hc]
    exact tg_name (by decide)
  case b2 =>
    intro i r h
    obtain ⟨c, hc, hcm, rfl⟩ := get_map h
    try dsimp only
    rw [hc, kOf_snoc hc]
    have hn1 := litsOf_names (hg.cl c hcm).2
    obtain ⟨f1, _, _⟩ := kOf_all (g.cls.take i) (fun _ => []) 0 (fun _ => Nat.le_refl _) fun _ => List.nodup_nil
    have f2 : (g.cls.take i).length ≤ 7 := Nat.le_trans (List.length_take_le' _ _) hg.few
    have f3 : ∀ k, (kOf (g.cls.take i) k).length ≤ 14 := fun k => Nat.le_trans (f1 k) (by omega)
    let ρ6 : (Lt → Addr) → Rho := fun ad => (ρe ad).set 6 (.per (dat K (clD c)))
    let ρ8 : (Lt → Addr) → Rho := fun ad => ((ρ6 ad).set 7 (.per (dat K (litD (litsOf c).1)))).set 8 (.per (dat K (litD (litsOf c).2)))
    refine PSs.weak (pss_cons (PS.any fun ad => s_asg (ρ := ρ6 ad) (ρ2 := ρ8 ad) (vs := [7, 8]) (d_callT T.literals_of (ok_literals_of T) c trivial hr (a_cons (d_var 6) a_nil)) (pg_tup rfl (pgs_cons (pg_name (i := 7) nd rfl (.inl rfl)) (pgs_cons (pg_name (i := 8) nd rfl (.inl rfl)) pgs_nil))) (tg_two (by decide) (by decide)))
      (pss_cons (s_edput (ρ := ρ8) (ls := lsOf g.names) (l := neg (litsOf c).1) (r := (litsOf c).2) 3 hu (lits_mem.mpr hn1.1) (fun _ => rfl) (fun ad => d_callT T.negate (ok_negate T) (litsOf c).1 trivial hr (a_cons (d_var 7) a_nil)) (fun ad => d_var 8) (fun ad => d_bl) rfl (.inr (.inl rfl)))
      (pss_one (s_edput (ρ := ρ8) (ls := lsOf g.names) (l := neg (litsOf c).2) (r := (litsOf c).1) 3 hu (lits_mem.mpr hn1.2) (fun _ => rfl) (fun ad => d_callT T.negate (ok_negate T) (litsOf c).2 trivial hr (a_cons (d_var 8) a_nil)) (fun ad => d_var 7) (fun ad => d_bl) rfl (.inr (.inl rfl)))))) fun D σ H ⟨F0, F, B, ad, eg, q⟩ => ?_
    refine ⟨ad, F, B, eg.evn, fun σ1 H1 B1 s1 e1 => ⟨F0, F, B1, ad, _, eg.base s1 e1, Nat.lt_of_le_of_lt (f3 _) (by decide), fun σ2 H2 B2 F2 s2 eg2 => ⟨F0, F2, B2, ad, _, eg2, Nat.lt_of_le_of_lt (addK_len f3 _) (by decide), fun σ3 H3 B3 F3 s3 eg3 => q σ3 H3 B3 F3 ((s1.trans s2).trans s3) (eg3.base (Same.refl _) (eg3.evn.less ?_))⟩⟩⟩
    exact Sub.cons (Sub.cons (Sub.cons (Sub.cons (Sub.cons (Sub.cons (Sub.drop (Sub.drop (Sub.drop (Sub.cons Sub.nil)))))))))
  case v3 =>
    intro l hl _ _ _ _ _
    rw [← kOf_succ]
    have e : (tKs (kOf g.cls l)).map (·.1) = kOf g.cls l := by
      unfold tKs
      rw [List.map_map]
      exact List.map_id _
    have hf := k1 l
    have hfew := hg.few
    refine d_eq (d_sortedK h128 T.z_sorted (d_ix (ix_ld hu) (opd_edGet hl) (d_var 3) (d_var 9)) ?few) (by rw [e])
    unfold tKs
    rw [List.length_map]
    exact Nat.le_trans hf (by omega)
  case shr =>
    have e : makeL (κ := Lt) id (fun l => PyData.list ((succ g l).map litD)) (lsOf g.names) = succL g := makeL_map _ _ (by rw [List.map_id]; exact hnd)
    rw [e]
    exact sh_ld P w K
  case fin =>
    intro D σ H ⟨F0, B, e, q⟩
    refine ⟨F0, B, e, fun σ1 H1 B1 F ad s1 eg1 => ⟨F0, F, B1, ad, eg1, fun σ2 H2 B2 F2 s2 eg2 => ?_⟩⟩
    rw [List.length_map, List.take_length] at eg2
    obtain ⟨B3, s3, e3⟩ := un_ed 3 rfl hnd eg2
    exact ⟨F0, B3, e3, fun σ' H' B' s' e' => q σ' H' B' (((s1.trans s2).trans s3).trans s') e'⟩
abbrev sp_graph_of (P : Program) (w : World) (K : PySem.W.Frag) (C : Addr) : Sp := spI (ι := Gm) GmOk (fun g => [dat K (gmD g)]) (fun g => grR P w K C g)
theorem ok_graph_of (T : Txt K mg) : FnOk P w K mg base CX0 4 T.graph_of.a T.graph_of.d ["grammar"] (sp_graph_of P w K T.C_ImplicationGraph) := by
  have nd := sc_graph_of.nd
  refine fn_pure T.graph_of.F sc_graph_of (fun _ => rfl) (fun cdv A outer s H E g hr hg => ?_)
  refine ⟨.rt (grR P w K T.C_ImplicationGraph g) [.per (dat K (gmD g))], b_ret (s_ret (d_make T.mk_ImplicationGraph (ok_graph_init T) g hg hr rfl T.gC_ImplicationGraph T.ImplicationGraph_init.b
    (a_cons (d_callT T.names_of (ok_names_of T) g (GmOk.len hg).2 hr (a_cons (d_var 0) a_nil)) (a_cons (d_ix ix_tup (opd_ixT (d := .tuple (g.cls.map clD)) rfl) (d_var 0) d_int) a_nil)) ?h1 rfl)), .inl ⟨_, rfl⟩⟩
  case h1 => rfl
end
end Fc
/-! FcFi: check_literals, find_chain, consequences. -/
namespace Fc
open PySem PySem.W PySem.Spec PyProof.Rows L2
section
variable {P : Program} {w : World} {K : PySem.W.Frag} {mg : Str → Option Value} {base : Heap}
abbrev sp_check_literals (K : PySem.W.Frag) : Sp := spI (ι := Gm × List Lt) (fun i => GmOk i.1 ∧ ∀ l ∈ i.2, l.1 ∈ i.1.names) (fun i => [dat K (gmD i.1), dat K (.list (i.2.map litD))]) (fun _ => dat K .none)
theorem ok_check_literals (T : Txt K mg) : FnOk P w K mg base CX0 2 T.check_literals.a T.check_literals.d ["grammar", "literals"] (sp_check_literals K) := by
  have nd := sc_check_literals.nd
  refine fn_pure T.check_literals.F sc_check_literals (fun _ => rfl) (fun cdv A outer s H E i hr hi => ?_)
  obtain ⟨g, ls⟩ := i
  obtain ⟨h1, h2⟩ := hi
  let st : Rho := [.per (dat K (gmD g)), .per (dat K (.list (ls.map litD))), .per (dat K (.list (g.names.map .str))), .no, .no]
  refine ⟨_, b_cons (s_set 2 (d_callT T.names_of (ok_names_of T) g (GmOk.len h1).2 hr (a_cons (d_var 0) a_nil)))
    (b_one (s_for (vs := [3]) (i_listT (xs := ls) (f := litD) (d_var 1)) (pg_name (i := 3) nd rfl (.inl rfl)) (fun _ => st) (fun i => st.set 3 (.per (dat K ((ls[i]?.map litD).getD .none)))) (Sub.refl _) ?ht ?body)), .inr ⟨_, rfl, fun _ => Dp.non⟩⟩
  case ht =>
    intro i r h
    obtain ⟨l, hl, _, rfl⟩ := get_map h
    try dsimp only
    rw [hl]
    exact tg_name (by decide)
  case body =>
    intro i r h
    obtain ⟨l, hl, hm, rfl⟩ := get_map h
    try dsimp only
    rw [hl]
    refine ⟨(st.set 3 (.per (dat K (litD l)))).set 4 (.per (dat K (.bool true))), b_cons (s_set 4 (d_eq (d_and (k := true) (k' := true) (d_isi "tuple" (r := true) T.z_isinstance T.z_tuple boot_ttuple (by decide +kernel) (d_var 3))
      (fun _ => d_and (k := true) (k' := true) (d_eq (d_cmp op_eq (opd_eqI rfl) (d_lenT (ds := [.str l.1, .bool l.2]) T.z_len (d_var 3)) d_int) ?e2) (fun _ => d_one (d_isi (d := .bool l.2) "bool" (r := true) T.z_isinstance T.z_bool boot_tbool (by decide +kernel) (d_ix ix_tup (opd_ixT (ds := [.str l.1, .bool l.2]) (d := .bool l.2) rfl) (d_var 3) d_int))))) rfl))
      (b_no (t_w (w_or (k := false) (k' := false) (t_not (k := true) (t_val (d_var 4))) (fun _ => w_one (t_cmp op_notIn_seq (opd_notInL (x := l.1) (xs := g.names) (b := false) (by rw [decide_eq_true (h2 l hm)]; rfl)) (d_ix ix_tup (opd_ixT (ds := [.str l.1, .bool l.2]) (d := .str l.1) rfl) (d_var 3) d_int) (d_var 2)) (.inr rfl)))) b_nil), Sub.cons (Sub.cons (Sub.cons (Sub.drop (Sub.drop Sub.nil))))⟩
    case e2 => rfl
abbrev sp_find_chain (K : PySem.W.Frag) : Sp := spI (ι := Gm × Lt × Lt) (fun i => GmOk i.1 ∧ i.2.1.1 ∈ i.1.names ∧ i.2.2.1 ∈ i.1.names) (fun i => [dat K (gmD i.1), dat K (litD i.2.1), dat K (litD i.2.2)]) (fun i => dat K (oD (bestC i.1 i.2.1 i.2.2)))
theorem ok_find_chain (T : Txt K mg) : FnOk P w K mg base CX0 6 T.find_chain.a T.find_chain.d ["grammar", "start", "goal"] (sp_find_chain K) := by
  have nd := sc_find_chain.nd
  refine fn_pure T.find_chain.F sc_find_chain (fun _ => rfl) (fun cdv A outer s H E i hr hi => ?_)
  obtain ⟨g, a, b⟩ := i
  obtain ⟨hg, ha, hb⟩ := hi
  dsimp only at hg ha hb
  refine ⟨_, b_cons (s_expr (d_callT T.check_grammar (ok_check_grammar T) g hg hr (a_cons (d_var 0) a_nil)))
    (b_cons (s_expr (d_callT T.check_literals (ok_check_literals T) (g, [a, b]) ⟨hg, fun l hl => ?hl⟩ hr (a_cons (d_var 0) (a_cons (d_lst (ds := [litD a, litD b]) (a_cons (d_var 1) (a_cons (d_var 2) a_nil))) a_nil))))
    (b_ret (s_ret (d_methT T.ImplicationGraph_shortest_chain (ok_shortest_chain T) (g, a, b) ⟨hg, ha, hb⟩ hr (gr_ins (by decide)) T.cl_ImplicationGraph T.m_ImplicationGraph_shortest_chain (d_callT T.graph_of (ok_graph_of T) g hg hr (a_cons (d_var 0) a_nil)) (a_cons (d_var 1) (a_cons (d_var 2) a_nil)))))), .inl ⟨_, rfl⟩⟩
  case hl =>
    rcases List.mem_cons.mp hl with rfl | hl
    · exact ha
    · rw [List.mem_singleton.mp hl]
      exact hb
abbrev sp_consequences (K : PySem.W.Frag) : Sp := spI (ι := Gm × Lt) (fun i => GmOk i.1 ∧ i.2.1 ∈ i.1.names) (fun i => [dat K (gmD i.1), dat K (.list ([i.2].map litD))]) (fun i => dat K (.list ((sortT (reachF i.1 i.2)).map litD)))
theorem reach_len {g : Gm} (hg : GmOk g) {a : Lt} (ha : a.1 ∈ g.names) : (reachF g a).length ≤ 10 := by
  obtain ⟨m, m0, m1, m2, m3⟩ := itr_stop (stepR g) (fun s => s.2 = []) (RInv g) (fun s => 2 * (2 * g.ops.length - s.1.length) + s.2.length) (fun s h hs => stepR_inv hg h hs) _ ([a], [a]) (Nat.le_refl _) ⟨by simp, by simpa using ha, by simp, Nat.le_refl _⟩
  rw [reachF, firstM_eq m1 m2]
  have := (m3 m (Nat.le_refl _)).le
  have := (GmOk.len hg).2
  omega
theorem ok_consequences (T : Txt K mg) : FnOk P w K mg base CX0 6 T.consequences.a T.consequences.d ["grammar", "literals"] (sp_consequences K) := by
  have nd := sc_consequences.nd
  refine fn_pure T.consequences.F sc_consequences (fun _ => rfl) (fun cdv A outer s H E i hr hi => ?_)
  obtain ⟨g, a⟩ := i
  obtain ⟨hg, ha⟩ := hi
  dsimp only at hg ha
  have h128 := hu128 hr
  have hl := reach_len hg ha
  refine ⟨_, b_cons (s_expr (d_callT T.check_grammar (ok_check_grammar T) g hg hr (a_cons (d_var 0) a_nil)))
    (b_cons (s_expr (d_callT T.check_literals (ok_check_literals T) (g, [a]) ⟨hg, fun l hl => by rw [List.mem_singleton.mp hl]; exact ha⟩ hr (a_cons (d_var 0) (a_cons (d_var 1) a_nil))))
    (b_ret (s_ret (d_eq (d_sortedK (kvs := tKs (reachF g a)) h128 T.z_sorted (d_methT T.ImplicationGraph_reachable (ok_reachable T) (g, a) ⟨hg, ha⟩ hr (gr_ins (by decide)) T.cl_ImplicationGraph T.m_ImplicationGraph_reachable (d_callT T.graph_of (ok_graph_of T) g hg hr (a_cons (d_var 0) a_nil)) (a_cons (d_var 1) a_nil)) ?hz) ?e)))), .inl ⟨_, rfl⟩⟩
  case hz =>
    unfold tKs
    rw [List.length_map]
    omega
  case e =>
    have e : (tKs (reachF g a)).map (·.1) = reachF g a := by
      unfold tKs
      rw [List.map_map]
      exact List.map_id _
    rw [e]
end
end Fc
/-! FcCo: find_contradiction, contradiction, check_satisfiable. -/
namespace Fc
open PySem PySem.W PySem.Spec PyProof.Rows L2
noncomputable def conOf (g : Gm) (n : Str) : Option (List Lt × List Lt) := match bestC g (n, false) (n, true), bestC g (n, true) (n, false) with
  | some a, some b => some (a, b)
  | _, _ => none
noncomputable def findCon (g : Gm) : Option (List Lt × List Lt) := g.names.findSome? (conOf g)
def oD2 : Option (List Lt × List Lt) → PyData
  | none => .none
  | some p => .tuple [.list (p.1.map litD), .list (p.2.map litD)]
theorem conOf_some {g : Gm} {n : Str} : (conOf g n).isSome = ((bestC g (n, false) (n, true)).isSome && (bestC g (n, true) (n, false)).isSome) := by
  unfold conOf
  cases bestC g (n, false) (n, true) <;> cases bestC g (n, true) (n, false) <;> rfl
section
variable {P : Program} {w : World} {K : PySem.W.Frag} {mg : Str → Option Value} {base : Heap}
abbrev sp_find_contradiction (K : PySem.W.Frag) : Sp := spI (ι := Gm) GmOk (fun g => [dat K (gmD g)]) (fun g => dat K (oD2 (findCon g)))
theorem ok_find_contradiction (T : Txt K mg) : FnOk P w K mg base CX0 5 T.find_contradiction.a T.find_contradiction.d ["grammar"] (sp_find_contradiction K) := by
  have nd := sc_find_contradiction.nd
  refine fn_pure T.find_contradiction.F sc_find_contradiction (fun _ => rfl) (fun cdv A outer s H E g hr hg => ?_)
  let X := cxD P w K mg base ["grammar", "graph", "name", "there", "back"] ("find_contradiction" : Str) s_find_contradiction T.find_contradiction.a cdv A outer s H E
  let st : Rho := [.per (dat K (gmD g)), .per (grR P w K T.C_ImplicationGraph g), .no, .no, .no]
  let sb : Str → Rho := fun n => ((st.set 2 (.per (dat K (.str n)))).set 3 (.per (dat K (oD (bestC g (n, false) (n, true)))))).set 4 (.per (dat K (oD (bestC g (n, true) (n, false)))))
  have two : ∀ n, n ∈ g.names → ∀ b : Bool, (conOf g n).isSome = b → ∀ (o : Out) (bd rest : List Stmt), True := fun _ _ _ _ _ _ _ => trivial
  rcases h : findCon g with _ | p
  · have hall : ∀ n ∈ g.names, conOf g n = none := List.findSome?_eq_none_iff.mp h
    refine ⟨.rt (dat K (oD2 none)) st, b_cons (s_set 1 (d_callT T.graph_of (ok_graph_of T) g hg hr (a_cons (d_var 0) a_nil)))
      (b_cons (s_for (vs := [2]) (i_listT (xs := g.names) (f := .str) (d_callT T.names_of (ok_names_of T) g (GmOk.len hg).2 hr (a_cons (d_var 0) a_nil))) (pg_name (i := 2) nd rfl (.inl rfl)) (fun _ => st) (fun i => st.set 2 (.per (dat K ((g.names[i]?.map .str).getD .none)))) (Sub.refl _) ?ht ?body)
      (b_ret (s_ret d_non))), .inl ⟨_, rfl⟩⟩
    case ht =>
      intro i r h
      obtain ⟨n, hn, _, rfl⟩ := get_map h
      try dsimp only
      rw [hn]
      exact tg_name (by decide)
    case body =>
      intro i r h
      obtain ⟨n, hn, hm, rfl⟩ := get_map h
      try dsimp only
      rw [hn]
      have hc : (conOf g n).isSome = false := by rw [hall n hm]; rfl
      rw [conOf_some] at hc
      refine ⟨sb n, b_cons (s_set 3 (d_methT T.ImplicationGraph_shortest_chain (ok_shortest_chain T) (g, (n, false), (n, true)) ⟨hg, hm, hm⟩ hr (gr_ins (by decide)) T.cl_ImplicationGraph T.m_ImplicationGraph_shortest_chain (d_var 1) (a_cons (d_tup (ds := [.str n, .bool false]) (a_cons (d_var 2) (a_cons d_bl a_nil))) (a_cons (d_tup (ds := [.str n, .bool true]) (a_cons (d_var 2) (a_cons d_bl a_nil))) a_nil))))
        (b_cons (s_set 4 (d_methT T.ImplicationGraph_shortest_chain (ok_shortest_chain T) (g, (n, true), (n, false)) ⟨hg, hm, hm⟩ hr (gr_ins (by decide)) T.cl_ImplicationGraph T.m_ImplicationGraph_shortest_chain (d_var 1) (a_cons (d_tup (ds := [.str n, .bool true]) (a_cons (d_var 2) (a_cons d_bl a_nil))) (a_cons (d_tup (ds := [.str n, .bool false]) (a_cons (d_var 2) (a_cons d_bl a_nil))) a_nil))))
        (b_no (t_eq (t_w (w_and (k := (bestC g (n, false) (n, true)).isSome) (k' := (bestC g (n, true) (n, false)).isSome) (t_cmp op_notN (opd_notN (d := oD (bestC g (n, false) (n, true))) (by rw [isNon_oD, Bool.not_not]) ) (d_var 3) d_non) (fun hk => w_one (t_cmp op_notN (opd_notN (d := oD (bestC g (n, true) (n, false))) (by rw [isNon_oD, Bool.not_not])) (d_var 4) d_non) (.inl rfl)))) hc) b_nil)), ?sub⟩
      case sub => exact Sub.cons (Sub.cons (Sub.drop (Sub.drop (Sub.drop Sub.nil))))
  · obtain ⟨l1, n, l2, e1, e2, e3⟩ := List.findSome?_eq_some_iff.mp h
    have hm : n ∈ g.names := by rw [e1]; simp
    have hlen : l1.length < g.names.length := by rw [e1]; simp
    have hat : g.names[l1.length]? = some n := by rw [e1]; simp
    have hbe : ∀ i, i < l1.length → ∀ n', g.names[i]? = some n' → conOf g n' = none := fun i hi n' hn' => by
      rw [e1, List.getElem?_append_left hi] at hn'
      exact e3 n' (List.mem_of_getElem? hn')
    obtain ⟨pa, pb, ea, eb, ep⟩ : ∃ pa pb, bestC g (n, false) (n, true) = some pa ∧ bestC g (n, true) (n, false) = some pb ∧ p = (pa, pb) := by
      unfold conOf at e2
      split at e2
      · rename_i pa pb ea eb
        injection e2 with e2
        exact ⟨pa, pb, ea, eb, e2.symm⟩
      · cases e2
    subst ep
    have hc : ((bestC g (n, false) (n, true)).isSome && (bestC g (n, true) (n, false)).isSome) = true := by rw [ea, eb]; rfl
    refine ⟨.rt (dat K (oD2 (some (pa, pb)))) (sb n), b_cons (s_set 1 (d_callT T.graph_of (ok_graph_of T) g hg hr (a_cons (d_var 0) a_nil)))
      (b_ret (s_forM (vs := [2]) (i_listT (xs := g.names) (f := .str) (d_callT T.names_of (ok_names_of T) g (GmOk.len hg).2 hr (a_cons (d_var 0) a_nil))) (pg_name (i := 2) nd rfl (.inl rfl)) l1.length (fun _ => st) (fun i => st.set 2 (.per (dat K ((g.names[i]?.map .str).getD .none)))) (Sub.refl _) ?ht2 (by rw [List.length_map]; omega) ?body2 (.inr ⟨by rw [List.length_map]; exact hlen, _, _, rfl, ?last⟩))), .inl ⟨_, rfl⟩⟩
    case ht2 =>
      intro i r h
      obtain ⟨n, hn, _, rfl⟩ := get_map h
      try dsimp only
      rw [hn]
      exact tg_name (by decide)
    case body2 =>
      intro i r hi h
      obtain ⟨n, hn, hm, rfl⟩ := get_map h
      try dsimp only
      rw [hn]
      have hc : (conOf g n).isSome = false := by rw [hbe i hi n hn]; rfl
      rw [conOf_some] at hc
      refine ⟨sb n, b_cons (s_set 3 (d_methT T.ImplicationGraph_shortest_chain (ok_shortest_chain T) (g, (n, false), (n, true)) ⟨hg, hm, hm⟩ hr (gr_ins (by decide)) T.cl_ImplicationGraph T.m_ImplicationGraph_shortest_chain (d_var 1) (a_cons (d_tup (ds := [.str n, .bool false]) (a_cons (d_var 2) (a_cons d_bl a_nil))) (a_cons (d_tup (ds := [.str n, .bool true]) (a_cons (d_var 2) (a_cons d_bl a_nil))) a_nil))))
        (b_cons (s_set 4 (d_methT T.ImplicationGraph_shortest_chain (ok_shortest_chain T) (g, (n, true), (n, false)) ⟨hg, hm, hm⟩ hr (gr_ins (by decide)) T.cl_ImplicationGraph T.m_ImplicationGraph_shortest_chain (d_var 1) (a_cons (d_tup (ds := [.str n, .bool true]) (a_cons (d_var 2) (a_cons d_bl a_nil))) (a_cons (d_tup (ds := [.str n, .bool false]) (a_cons (d_var 2) (a_cons d_bl a_nil))) a_nil))))
        (b_no (t_eq (t_w (w_and (k := (bestC g (n, false) (n, true)).isSome) (k' := (bestC g (n, true) (n, false)).isSome) (t_cmp op_notN (opd_notN (d := oD (bestC g (n, false) (n, true))) (by rw [isNon_oD, Bool.not_not]) ) (d_var 3) d_non) (fun hk => w_one (t_cmp op_notN (opd_notN (d := oD (bestC g (n, true) (n, false))) (by rw [isNon_oD, Bool.not_not])) (d_var 4) d_non) (.inl rfl)))) hc) b_nil)), ?sub2⟩
      case sub2 => exact Sub.cons (Sub.cons (Sub.drop (Sub.drop (Sub.drop Sub.nil))))
    case last =>
      try dsimp only
      rw [hat]
      exact b_cons (s_set 3 (d_methT T.ImplicationGraph_shortest_chain (ok_shortest_chain T) (g, (n, false), (n, true)) ⟨hg, hm, hm⟩ hr (gr_ins (by decide)) T.cl_ImplicationGraph T.m_ImplicationGraph_shortest_chain (d_var 1) (a_cons (d_tup (ds := [.str n, .bool false]) (a_cons (d_var 2) (a_cons d_bl a_nil))) (a_cons (d_tup (ds := [.str n, .bool true]) (a_cons (d_var 2) (a_cons d_bl a_nil))) a_nil))))
        (b_cons (s_set 4 (d_methT T.ImplicationGraph_shortest_chain (ok_shortest_chain T) (g, (n, true), (n, false)) ⟨hg, hm, hm⟩ hr (gr_ins (by decide)) T.cl_ImplicationGraph T.m_ImplicationGraph_shortest_chain (d_var 1) (a_cons (d_tup (ds := [.str n, .bool true]) (a_cons (d_var 2) (a_cons d_bl a_nil))) (a_cons (d_tup (ds := [.str n, .bool false]) (a_cons (d_var 2) (a_cons d_bl a_nil))) a_nil))))
        (b_one (s_if (k := true) (t_eq (t_w (w_and (k := (bestC g (n, false) (n, true)).isSome) (k' := (bestC g (n, true) (n, false)).isSome) (t_cmp op_notN (opd_notN (d := oD (bestC g (n, false) (n, true))) (by rw [isNon_oD, Bool.not_not]) ) (d_var 3) d_non) (fun hk => w_one (t_cmp op_notN (opd_notN (d := oD (bestC g (n, true) (n, false))) (by rw [isNon_oD, Bool.not_not])) (d_var 4) d_non) (.inl rfl)))) hc) (fun _ => b_ret (s_ret (d_eq (d_tup (ds := [oD (bestC g (n, false) (n, true)), oD (bestC g (n, true) (n, false))]) (a_cons (d_var 3) (a_cons (d_var 4) a_nil))) (by rw [ea, eb]; rfl)))) (fun z => nomatch z))))
abbrev sp_contradiction (K : PySem.W.Frag) : Sp := spI (ι := Gm) GmOk (fun g => [dat K (gmD g)]) (fun g => dat K (oD2 (findCon g)))
theorem ok_contradiction (T : Txt K mg) : FnOk P w K mg base CX0 6 T.contradiction.a T.contradiction.d ["grammar"] (sp_contradiction K) := by
  have nd := sc_contradiction.nd
  refine fn_pure T.contradiction.F sc_contradiction (fun _ => rfl) (fun cdv A outer s H E g hr hg => ?_)
  exact ⟨_, b_cons (s_expr (d_callT T.check_grammar (ok_check_grammar T) g hg hr (a_cons (d_var 0) a_nil)))
    (b_ret (s_ret (d_callT T.find_contradiction (ok_find_contradiction T) g hg hr (a_cons (d_var 0) a_nil)))), .inl ⟨_, rfl⟩⟩
abbrev sp_check_satisfiable (K : PySem.W.Frag) : Sp := spI (ι := Gm) (fun g => GmOk g ∧ findCon g = none) (fun g => [dat K (gmD g)]) (fun g => dat K .none)
theorem ok_check_satisfiable (T : Txt K mg) : FnOk P w K mg base CX0 6 T.check_satisfiable.a T.check_satisfiable.d ["grammar"] (sp_check_satisfiable K) := by
  have nd := sc_check_satisfiable.nd
  refine fn_pure T.check_satisfiable.F sc_check_satisfiable (fun _ => rfl) (fun cdv A outer s H E g hr hi => ?_)
  obtain ⟨hg, hf⟩ := hi
  exact ⟨_, b_no (t_cmp op_notN (opd_notN (d := oD2 (findCon g)) (by rw [hf]; rfl)) (d_callT T.find_contradiction (ok_find_contradiction T) g hg hr (a_cons (d_var 0) a_nil)) d_non) b_nil, .inr ⟨_, rfl, fun _ => Dp.non⟩⟩
end
end Fc
/-! FcCm: chain_for, verdict. -/
namespace Fc
open PySem PySem.W PySem.Spec PyProof.Rows L2
/-- an instance of Completion -/
def cpR (P : Program) (w : World) (K : PySem.W.Frag) (C CG : Addr) (g : Gm) (ns : List Str) : Rp where
  p := fun v B => ∃ a dx u1 u2, v = .ref a ∧ B a = some (.ins C dx [(("graph" : Str), u1), (("given" : Str), u2)]) ∧ (grR P w K CG g).p u1 B ∧ (dat K (.list (ns.map .str))).p u2 B
  mono := fun s ⟨a, dx, u1, u2, e, h, h1, h2⟩ => ⟨a, dx, u1, u2, e, s _ _ h, Rp.mono _ s h1, Rp.mono _ s h2⟩
section
variable {P : Program} {w : World} {K : PySem.W.Frag} {C CG : Addr} {g : Gm} {ns : List Str}
theorem cp_graph : FldOf K C "graph" (cpR P w K C CG g ns) (grR P w K CG g) := fun v B ⟨a, dx, u1, u2, e, h, h1, h2⟩ => ⟨a, dx, _, u1, e, h, by rfl, h1⟩
theorem cp_given : FldOf K C "given" (cpR P w K C CG g ns) (dat K (.list (ns.map .str))) := fun v B ⟨a, dx, u1, u2, e, h, h1, h2⟩ => ⟨a, dx, _, u2, e, h, by rfl, h2⟩
theorem cp_ins {m : Str} (h1 : (m == ("graph" : Str)) = false) (h2 : (m == ("given" : Str)) = false) : IsIns C m (cpR P w K C CG g ns) := fun v B ⟨a, dx, u1, u2, e, h, _, _⟩ => ⟨a, dx, _, e, h, by rw [List.lookup_cons, h1]; show (List.lookup m [_]) = none; rw [List.lookup_cons, h2]; rfl⟩
end
noncomputable def chainFor (g : Gm) (ns : List Str) (l : Lt) : Option (List Lt) := bestOf g (ns.map (fun m => (m, true)) ++ [neg l]) l
noncomputable def verdF (g : Gm) (ns : List Str) (n : Str) : Str := if n ∈ ns then "given" else if (chainFor g ns (n, true)).isSome then "required" else if (chainFor g ns (n, false)).isSome then "impossible" else "possible"
section
variable {P : Program} {w : World} {K : PySem.W.Frag} {mg : Str → Option Value} {base : Heap}
abbrev sp_chain_for (P : Program) (w : World) (K : PySem.W.Frag) (C CG : Addr) : Sp := spI (ι := Gm × List Str × Lt) (fun i => GmOk i.1 ∧ (∀ n ∈ i.2.1, n ∈ i.1.names) ∧ i.2.2.1 ∈ i.1.names ∧ i.2.1.length ≤ 100) (fun i => [cpR P w K C CG i.1 i.2.1, dat K (litD i.2.2)]) (fun i => dat K (oD (chainFor i.1 i.2.1 i.2.2)))
theorem ok_chain_for (T : Txt K mg) : FnOk P w K mg base CX0 5 T.Completion_chain_for.a T.Completion_chain_for.d ["self", "literal"] (sp_chain_for P w K T.C_Completion T.C_ImplicationGraph) := by
  have nd := sc_Completion_chain_for.nd
  refine fn_pure T.Completion_chain_for.F sc_Completion_chain_for (fun _ => rfl) (fun cdv A outer s H E i hr hi => ?_)
  obtain ⟨g, ns, l⟩ := i
  obtain ⟨hg, hn, hl, hz⟩ := hi
  dsimp only at hg hn hl hz
  have hss : ∀ s ∈ ns.map (fun m => (m, true)) ++ [neg l], s.1 ∈ g.names := fun s hs => by
    rcases List.mem_append.mp hs with h | h
    · obtain ⟨m, hm, rfl⟩ := List.mem_map.mp h
      exact hn m hm
    · rw [List.mem_singleton.mp h]
      exact hl
  refine ⟨_, b_cons (s_set 2 (d_bin op_catQ (opd_cat' (ds := ns.map fun m => litD (m, true)) (es := [litD (neg l)]) ?hz) (d_lcA (lc_one ns (fun n => dat K (.str n)) (fun m => litD (m, true)) 3 (i_listT (d_fld cp_given T.cl_Completion T.n_Completion_given (d_var 0))) (blkOk_by (N := ["self", "literal", "starts", "name"]) (sc := defScope s_Completion_chain_for) (by decide +kernel)) (fun _ _ _ _ _ => pg_name (i := 3) nd rfl (.inl rfl)) rfl (by omega)
      (fun n hn _ _ _ _ _ => d_tup (ds := [_, _]) (a_cons (d_var 3) (a_cons d_bl a_nil))))) (d_lst (ds := [litD (neg l)]) (a_cons (d_callT T.negate (ok_negate T) l trivial hr (a_cons (d_var 1) a_nil)) a_nil))))
    (b_ret (s_ret (d_methT T.ImplicationGraph_best_chain (ok_best_chain T) (g, ns.map (fun m => (m, true)) ++ [neg l], l) ⟨hg, hss, hl, ?hlen⟩ hr (gr_ins (by decide)) T.cl_ImplicationGraph T.m_ImplicationGraph_best_chain (d_fld cp_graph T.cl_Completion T.n_Completion_graph (d_var 0)) (a_cons (d_eq (d_var 2) ?e) (a_cons (d_var 1) a_nil))))), .inl ⟨_, rfl⟩⟩
  case hz => rw [List.length_map]; show _ + 1 ≤ _; omega
  case hlen =>
    show (ns.map (fun m => (m, true)) ++ [neg l]).length ≤ 1000
    rw [List.length_append, List.length_map]
    show _ + 1 ≤ _
    omega
  case e => rw [List.map_append, List.map_map]; rfl
abbrev sp_verdict (P : Program) (w : World) (K : PySem.W.Frag) (C CG : Addr) : Sp := spI (ι := Gm × List Str × Str) (fun i => GmOk i.1 ∧ (∀ n ∈ i.2.1, n ∈ i.1.names) ∧ i.2.2 ∈ i.1.names ∧ i.2.1.length ≤ 100) (fun i => [cpR P w K C CG i.1 i.2.1, dat K (.str i.2.2)]) (fun i => dat K (.str (verdF i.1 i.2.1 i.2.2)))
theorem ok_verdict (T : Txt K mg) : FnOk P w K mg base CX0 6 T.Completion_verdict.a T.Completion_verdict.d ["self", "name"] (sp_verdict P w K T.C_Completion T.C_ImplicationGraph) := by
  have nd := sc_Completion_verdict.nd
  refine fn_pure T.Completion_verdict.F sc_Completion_verdict (fun _ => rfl) (fun cdv A outer s H E i hr hi => ?_)
  obtain ⟨g, ns, n⟩ := i
  obtain ⟨hg, hn, hl, hz⟩ := hi
  dsimp only at hg hn hl hz
  let st : Rho := [.per (cpR P w K T.C_Completion T.C_ImplicationGraph g ns), .per (dat K (.str n))]
  refine ⟨.rt (dat K (.str (verdF g ns n))) st, b_ifr (k := decide (n ∈ ns)) (t_cmp op_in_seq (opd_inL (x := n) (xs := ns) rfl) (d_var 1) (d_fld cp_given T.cl_Completion T.n_Completion_given (d_var 0))) (fun h => b_ret (s_ret (d_eq d_str ?e1)))
    (fun h1 => b_ifr (k := (chainFor g ns (n, true)).isSome) (t_cmp op_notN (opd_notN (d := oD (chainFor g ns (n, true))) (by rw [isNon_oD, Bool.not_not])) (d_methT T.Completion_chain_for (ok_chain_for T) (g, ns, (n, true)) ⟨hg, hn, hl, hz⟩ hr (cp_ins (by decide) (by decide)) T.cl_Completion T.m_Completion_chain_for (d_var 0) (a_cons (d_tup (ds := [.str n, .bool true]) (a_cons (d_var 1) (a_cons d_bl a_nil))) a_nil)) d_non) (fun h => b_ret (s_ret (d_eq d_str ?e2)))
    (fun h2 => b_ret (s_ret (d_if (k := (chainFor g ns (n, false)).isSome) (t_cmp op_notN (opd_notN (d := oD (chainFor g ns (n, false))) (by rw [isNon_oD, Bool.not_not])) (d_methT T.Completion_chain_for (ok_chain_for T) (g, ns, (n, false)) ⟨hg, hn, hl, hz⟩ hr (cp_ins (by decide) (by decide)) T.cl_Completion T.m_Completion_chain_for (d_var 0) (a_cons (d_tup (ds := [.str n, .bool false]) (a_cons (d_var 1) (a_cons d_bl a_nil))) a_nil)) d_non) (fun h => d_eq d_str ?e3) (fun h => d_eq d_str ?e4))))), .inl ⟨_, rfl⟩⟩
  case e1 => rw [verdF, if_pos (of_decide_eq_true h)]
  case e2 => rw [verdF, if_neg (of_decide_eq_false h1), if_pos h]
  case e3 => rw [verdF, if_neg (of_decide_eq_false h1), if_neg (by rw [h2]; decide), if_pos h]
  case e4 => rw [verdF, if_neg (of_decide_eq_false h1), if_neg (by rw [h2]; decide), if_neg (by rw [h]; decide)]
end
end Fc
/-! FcEv: step_clause, is_literal. -/
namespace Fc
open PySem PySem.W PySem.Spec PyProof.Rows L2
def isStep (l r : Lt) (c : Cl) : Bool := decide (sortT [(litsOf c).1, (litsOf c).2] = sortT [neg l, r])
def stepC (g : Gm) (l r : Lt) : Option Cl := g.cls.find? (isStep l r)
def oC : Option Cl → PyData
  | none => .none
  | some c => clD c
section
variable {P : Program} {w : World} {K : PySem.W.Frag} {mg : Str → Option Value} {base : Heap}
abbrev sp_step_clause (K : PySem.W.Frag) : Sp := spI (ι := Gm × Lt × Lt × Cl) (fun i => GmOk i.1 ∧ stepC i.1 i.2.1 i.2.2.1 = some i.2.2.2) (fun i => [dat K (gmD i.1), dat K (litD i.2.1), dat K (litD i.2.2.1)]) (fun i => dat K (clD i.2.2.2))
theorem ok_step_clause (T : Txt K mg) : FnOk P w K mg base CX0 2 T.step_clause.a T.step_clause.d ["grammar", "left", "right"] (sp_step_clause K) := by
  have nd := sc_step_clause.nd
  refine fn_pure T.step_clause.F sc_step_clause (fun _ => rfl) (fun cdv A outer s H E i hr hi => ?_)
  obtain ⟨g, a, b, c⟩ := i
  obtain ⟨hg, hc⟩ := hi
  dsimp only at hg hc
  have hu64 := hr.units
  have h128 := hu128 hr
  obtain ⟨hp, l1, l2, e1, e3⟩ := List.find?_eq_some_iff_append.mp hc
  have hlen : l1.length < g.cls.length := by rw [e1]; simp
  have hat : g.cls[l1.length]? = some c := by rw [e1]; simp
  have hbe : ∀ i, i < l1.length → ∀ c', g.cls[i]? = some c' → isStep a b c' = false := fun i hi n' hn' => by
    rw [e1, List.getElem?_append_left hi] at hn'
    simpa using e3 n' (List.mem_of_getElem? hn')
  let st : Rho := [.per (dat K (gmD g)), .per (dat K (litD a)), .per (dat K (litD b)), .no]
  have fewc := hg.few
  refine ⟨.rt (dat K (clD c)) (st.set 3 (.per (dat K (clD c)))), b_ret (s_forM (vs := [3]) (i_tupT (xs := g.cls) (f := clD) (d_ix ix_tup (opd_ixT (ds := [.tuple (g.ops.map opD), .tuple [.int g.lo, .int g.hi], .tuple (g.cls.map clD)]) (d := .tuple (g.cls.map clD)) rfl) (d_var 0) d_int)) (pg_name (i := 3) nd rfl (.inl rfl)) l1.length (fun _ => st) (fun i => st.set 3 (.per (dat K ((g.cls[i]?.map clD).getD .none)))) (Sub.refl _) ?ht (by rw [List.length_map]; omega) ?body (.inr ⟨by rw [List.length_map]; exact hlen, _, _, rfl, ?last⟩)), .inl ⟨_, rfl⟩⟩
  case ht =>
    intro i r h
    obtain ⟨n, hn, _, rfl⟩ := get_map h
    try dsimp only
    rw [hn]
    exact tg_name (by decide)
  case body =>
    intro i r hi h
    obtain ⟨c', hn, hm, rfl⟩ := get_map h
    try dsimp only
    rw [hn]
    exact ⟨st.set 3 (.per (dat K (clD c'))), b_no (t_cmp (op_eqP hu64) (opd_eqT (α := List Lt) (x := sortT [(litsOf c').1, (litsOf c').2]) (y := sortT [neg a, b]) (hbe i hi c' hn)) (d_sortedT (xs := [(litsOf c').1, (litsOf c').2]) h128 T.z_sorted (d_callT T.literals_of (ok_literals_of T) c' trivial hr (a_cons (d_var 3) a_nil)) (by show 2 ≤ 1000000; decide))
      (d_sortedT (xs := [neg a, b]) h128 T.z_sorted (d_tup (ds := [litD (neg a), litD b]) (a_cons (d_callT T.negate (ok_negate T) a trivial hr (a_cons (d_var 1) a_nil)) (a_cons (d_var 2) a_nil))) (by show 2 ≤ 1000000; decide))) b_nil, Sub.unset rfl⟩
  case last =>
    try dsimp only
    rw [hat]
    exact b_one (s_if (k := true) (t_cmp (op_eqP hu64) (opd_eqT (α := List Lt) (x := sortT [(litsOf c).1, (litsOf c).2]) (y := sortT [neg a, b]) hp) (d_sortedT (xs := [(litsOf c).1, (litsOf c).2]) h128 T.z_sorted (d_callT T.literals_of (ok_literals_of T) c trivial hr (a_cons (d_var 3) a_nil)) (by show 2 ≤ 1000000; decide))
      (d_sortedT (xs := [neg a, b]) h128 T.z_sorted (d_tup (ds := [litD (neg a), litD b]) (a_cons (d_callT T.negate (ok_negate T) a trivial hr (a_cons (d_var 1) a_nil)) (a_cons (d_var 2) a_nil))) (by show 2 ≤ 1000000; decide))) (fun _ => b_ret (s_ret (d_var 3))) (fun z => nomatch z))
abbrev sp_is_literal (K : PySem.W.Frag) : Sp := spI (ι := Gm × Lt) (fun i => GmOk i.1 ∧ i.2.1 ∈ i.1.names) (fun i => [dat K (gmD i.1), dat K (litD i.2)]) (fun i => dat K (.bool true))
theorem ok_is_literal (T : Txt K mg) : FnOk P w K mg base CX0 2 T.is_literal.a T.is_literal.d ["grammar", "value"] (sp_is_literal K) := by
  have nd := sc_is_literal.nd
  refine fn_pure T.is_literal.F sc_is_literal (fun _ => rfl) (fun cdv A outer s H E i hr hi => ?_)
  obtain ⟨g, l⟩ := i
  obtain ⟨hg, hl⟩ := hi
  dsimp only at hg hl
  refine ⟨_, b_no (t_w (w_or (k := false) (k' := false) (t_not (k := true) (t_val (d_isi "tuple" (r := true) T.z_isinstance T.z_tuple boot_ttuple (by decide +kernel) (d_var 1))))
    (fun _ => w_or (k := false) (k' := false) (t_cmp op_ne (opd_neI rfl) (d_lenT (ds := [.str l.1, .bool l.2]) T.z_len (d_var 1)) d_int) (fun _ => w_one (t_not (k := true) (t_val (d_isi (d := .bool l.2) "bool" (r := true) T.z_isinstance T.z_bool boot_tbool (by decide +kernel) (d_ix ix_tup (opd_ixT (ds := [.str l.1, .bool l.2]) (d := .bool l.2) rfl) (d_var 1) d_int)))) (.inr rfl)))))
    (b_ret (s_ret (d_eq (d_and (k := true) (k' := true) (d_isi (d := .str l.1) "str" (r := true) T.z_isinstance T.z_str boot_tstr (by decide +kernel) (d_ix ix_tup (opd_ixT (ds := [.str l.1, .bool l.2]) (d := .str l.1) rfl) (d_var 1) d_int))
      (fun _ => d_one (d_cmp op_in_seq (opd_inL (x := l.1) (xs := g.names) (decide_eq_true hl)) (d_ix ix_tup (opd_ixT (ds := [.str l.1, .bool l.2]) (d := .str l.1) rfl) (d_var 1) d_int) (d_callT T.names_of (ok_names_of T) g (GmOk.len hg).2 hr (a_cons (d_var 0) a_nil))))) rfl))), .inl ⟨_, rfl⟩⟩
end
end Fc
/-! FcCc: clauses_of_chain, check_chain. -/
namespace Fc
open PySem PySem.W PySem.Spec PyProof.Rows L2
/-- each step of the chain is by its clause -/
structure ChOk (g : Gm) (ch : List Lt) (cs : List Cl) : Prop where
  gm : GmOk g
  nm : ∀ l ∈ ch, l.1 ∈ g.names
  len : ch.length = cs.length + 1
  few : cs.length ≤ 100
  st : ∀ (i : Nat) a b, ch[i]? = some a → ch[i + 1]? = some b → ∃ c, cs[i]? = some c ∧ stepC g a b = some c
theorem atI_nat {α : Type} {xs : List α} {i : Nat} {x : α} (h : xs[i]? = some x) : atI xs (i : Int) = some x := by
  have hl := (List.getElem?_eq_some_iff.mp h).1
  have e : ixN xs.length (i : Int) = some i := by
    unfold ixN
    rw [if_pos (by omega), if_pos (by omega)]
    rfl
  unfold atI
  rw [e]
  exact h
section
variable {P : Program} {w : World} {K : PySem.W.Frag} {mg : Str → Option Value} {base : Heap}
abbrev sp_clauses_of_chain (K : PySem.W.Frag) : Sp := spI (ι := Gm × List Lt × List Cl) (fun i => ChOk i.1 i.2.1 i.2.2) (fun i => [dat K (gmD i.1), dat K (.list (i.2.1.map litD))]) (fun i => dat K (.list (i.2.2.map clD)))
theorem ok_clauses_of_chain (T : Txt K mg) : FnOk P w K mg base CX0 3 T.clauses_of_chain.a T.clauses_of_chain.d ["grammar", "chain"] (sp_clauses_of_chain K) := by
  have nd := sc_clauses_of_chain.nd
  refine fn_pure T.clauses_of_chain.F sc_clauses_of_chain (fun _ => rfl) (fun cdv A outer s H E i hr hi => ?_)
  obtain ⟨g, ch, cs⟩ := i
  obtain ⟨hg, hn, hl, hz, hs⟩ := hi
  dsimp only at hg hn hl hz hs
  have hu64 := hr.units
  let st : Nat → Rho := fun i => [.per (dat K (gmD g)), .per (dat K (.list (ch.map litD))), .own (lstO K ((cs.take i).map clD)), .no, .no]
  have h0 : ∃ l, ch[0]? = some l := ⟨ch[0]'(by omega), List.getElem?_eq_getElem _⟩
  obtain ⟨l0, hl0⟩ := h0
  have hne : ch ≠ [] := fun z => by rw [z] at hl; simp at hl
  have hk : (((ch.length : Nat) : Int) - 1).toNat = cs.length := by omega
  refine ⟨.rt (dat K (.list (cs.map clD))) ((st cs.length).set 2 (.per (dat K (.list ((cs.take cs.length).map clD))))), b_no (t_w (w_or (k := false) (k' := false) (t_not (k := true) (t_val (d_isi "list" (r := true) T.z_isinstance T.z_list boot_tlist (by decide +kernel) (d_var 1))))
    (fun _ => w_or (k := false) (k' := false) (t_cmp (op_eqP hu64) (opd_eqP (plT (α := List Lt) ch) (plT (α := List Lt) []) ?e1) (d_var 1) (d_lst (ds := []) a_nil)) (fun _ => w_one (t_not (k := true) (t_val (d_callT T.is_literal (ok_is_literal T) (g, l0) ⟨hg, hn l0 (List.mem_of_getElem? hl0)⟩ hr (a_cons (d_var 0) (a_cons (d_ix ix_list (opd_ixL (ds := ch.map litD) (d := litD l0) ?at0) (d_var 1) d_int) a_nil))))) (.inr rfl)))))
    (b_cons (s_new 2 (n_lst (ds := []) a_nil))
    (b_cons (s_for (vs := [3]) (i_range2 (m := 1) (n := (ch.length : Int)) T.z_range (a_cons d_int (a_cons (d_eq (d_lenL (ds := ch.map litD) T.z_len (d_var 1)) (by rw [List.length_map])) a_nil)) (by omega)) (pg_name (i := 3) nd rfl (.inl rfl)) st (fun i => (st i).set 3 (.per (dat K (.int (1 + (i : Int)))))) (Sub.refl _) ?ht ?body)
    (b_rep (r := dat K (.list ((cs.take cs.length).map clD))) ?ret ?rep))), .inl ⟨_, rfl⟩⟩
  case at0 => exact atI_zero (by rw [List.getElem?_map, hl0]; rfl)
  case e1 =>
    have h1 : PyData.eqv (.list (ch.map litD)) (.list []) = decide (ch = []) := Datum.eqv (α := List Lt) ch []
    exact h1.trans (decide_eq_false hne)
  case ret =>
    unfold rangeR
    rw [List.length_map, List.length_range, hk]
    exact b_ret (s_ret (e_share 2 sh_lst (d_var 2)))
  case rep =>
    intro v B h
    rw [List.take_length] at h
    exact h
  case ht =>
    intro i r h
    obtain ⟨j, hj, _, rfl⟩ := get_map h
    have hji : j = i := by
      rw [List.getElem?_range (by
        have := (List.getElem?_eq_some_iff.mp hj).1
        rwa [List.length_range] at this)] at hj
      exact (Option.some.inj hj).symm
    subst hji
    exact tg_name (by decide)
  case body =>
    intro i r h
    obtain ⟨j, hj, _, rfl⟩ := get_map h
    have hlt : i < cs.length := by
      have := (List.getElem?_eq_some_iff.mp hj).1
      rw [List.length_range] at this
      omega
    obtain ⟨a, ha⟩ : ∃ a, ch[i]? = some a := ⟨ch[i]'(by omega), List.getElem?_eq_getElem _⟩
    obtain ⟨b, hb⟩ : ∃ b, ch[i + 1]? = some b := ⟨ch[i + 1]'(by omega), List.getElem?_eq_getElem _⟩
    obtain ⟨c, hc, hsc⟩ := hs i a b ha hb
    have hxb : atI (ch.map litD) (1 + (i : Int)) = some (litD b) := by
      rw [show (1 + (i : Int)) = ((i + 1 : Nat) : Int) by omega]
      exact atI_nat (by rw [List.getElem?_map, hb]; rfl)
    have hxa : atI (ch.map litD) (1 + (i : Int) - 1) = some (litD a) := by
      rw [show (1 + (i : Int) - 1) = ((i : Nat) : Int) by omega]
      exact atI_nat (by rw [List.getElem?_map, ha]; rfl)
    have hlt2 : ((cs.take i).map clD).length < 1000000 := by rw [List.length_map, List.length_take]; omega
    have e2 : (cs.take i).map clD ++ [clD c] = (cs.take (i + 1)).map clD := by rw [take_snoc hc, List.map_append]; rfl
    refine ⟨_, b_no (t_not (k := true) (t_val (d_callT T.is_literal (ok_is_literal T) (g, b) ⟨hg, hn b (List.mem_of_getElem? hb)⟩ hr (a_cons (d_var 0) (a_cons (d_ix ix_list (opd_ixL (ds := ch.map litD) (d := litD b) hxb) (d_var 1) (d_var 3)) a_nil)))))
      (b_cons (s_set 4 (d_callT T.step_clause (ok_step_clause T) (g, a, b, c) ⟨hg, hsc⟩ hr (a_cons (d_var 0) (a_cons (d_ix ix_list (opd_ixL (ds := ch.map litD) (d := litD a) hxa) (d_var 1) (d_bin op_sub opd_I0 (d_var 3) d_int)) (a_cons (d_ix ix_list (opd_ixL (ds := ch.map litD) (d := litD b) hxb) (d_var 1) (d_var 3)) a_nil)))))
      (b_no (t_cmp op_isN (opd_isN (d := clD c) rfl) (d_var 4) d_non) (b_one (s_expr (d_app 2 (d_var 4) hlt2))))), ?sub⟩
    show Sub [_, _, Sl.own (lstO K ((cs.take i).map clD ++ [clD c])), _, _] (st (i + 1))
    rw [e2]
    exact Sub.cons (Sub.cons (Sub.cons (Sub.drop (Sub.drop Sub.nil))))
end
end Fc
/-! FcJu: check_chain, judge, shows_conflict, shows_contradiction. -/
namespace Fc
open PySem PySem.W PySem.Spec PyProof.Rows L2
section
variable {P : Program} {w : World} {K : PySem.W.Frag} {mg : Str → Option Value} {base : Heap}
abbrev sp_check_chain (K : PySem.W.Frag) : Sp := spI (ι := Gm × List Lt × List Cl) (fun i => ChOk i.1 i.2.1 i.2.2) (fun i => [dat K (gmD i.1), dat K (.list (i.2.1.map litD))]) (fun i => dat K (.list (i.2.2.map clD)))
theorem ok_check_chain (T : Txt K mg) : FnOk P w K mg base CX0 6 T.check_chain.a T.check_chain.d ["grammar", "chain"] (sp_check_chain K) := by
  have nd := sc_check_chain.nd
  refine fn_pure T.check_chain.F sc_check_chain (fun _ => rfl) (fun cdv A outer s H E i hr hi => ?_)
  obtain ⟨g, ch, cs⟩ := i
  exact ⟨_, b_cons (s_expr (d_callT T.check_grammar (ok_check_grammar T) g hi.gm hr (a_cons (d_var 0) a_nil)))
    (b_ret (s_ret (d_callT T.clauses_of_chain (ok_clauses_of_chain T) (g, ch, cs) hi hr (a_cons (d_var 0) (a_cons (d_var 1) a_nil))))), .inl ⟨_, rfl⟩⟩
structure JuOk (g : Gm) (gv : List Str) (n : Str) (ch : List Lt) (cs : List Cl) (s b : Lt) : Prop where
  ok : ChOk g ch cs
  gvn : ∀ m ∈ gv, m ∈ g.names
  hn : n ∈ g.names
  st : ch[0]? = some s
  en : ch[cs.length]? = some b
  nm : b.1 = n
  from_ : s = neg b ∨ (s.2 = true ∧ s.1 ∈ gv)
abbrev sp_judge (K : PySem.W.Frag) : Sp := spI (ι := Gm × List Str × Str × List Lt × List Cl × Lt × Lt) (fun i => JuOk i.1 i.2.1 i.2.2.1 i.2.2.2.1 i.2.2.2.2.1 i.2.2.2.2.2.1 i.2.2.2.2.2.2) (fun i => [dat K (gmD i.1), dat K (.list (i.2.1.map .str)), dat K (.str i.2.2.1), dat K (.list (i.2.2.2.1.map litD))]) (fun i => dat K (.str (if i.2.2.2.2.2.2.2 = true then "required" else "impossible")))
theorem ok_judge (T : Txt K mg) : FnOk P w K mg base CX0 6 T.judge.a T.judge.d ["grammar", "given", "name", "chain"] (sp_judge K) := by
  have nd := sc_judge.nd
  refine fn_pure T.judge.F sc_judge (fun _ => rfl) (fun cdv A outer s H E i hr hi => ?_)
  obtain ⟨g, gv, n, ch, cs, a, b⟩ := i
  obtain ⟨hok, hgv, hn, hst, hen, hnm, hfr⟩ := hi
  dsimp only at hok hgv hn hst hen hnm hfr
  have hu64 := hr.units
  have hlen := (GmOk.len hok.gm).2
  refine ⟨_, b_cons (s_expr (d_callT T.check_grammar (ok_check_grammar T) g hok.gm hr (a_cons (d_var 0) a_nil)))
    (b_cons (s_expr (d_callT T.check_names (ok_check_names T) (g, gv) ⟨hlen, hgv⟩ hr (a_cons (d_var 0) (a_cons (d_var 1) a_nil))))
    (b_cons (s_expr (d_callT T.check_names (ok_check_names T) (g, [n]) ⟨hlen, fun m hm => by rw [List.mem_singleton.mp hm]; exact hn⟩ hr (a_cons (d_var 0) (a_cons (d_lst (ds := [.str n]) (a_cons (d_var 2) a_nil)) a_nil))))
    (b_cons (s_expr (d_callT T.clauses_of_chain (ok_clauses_of_chain T) (g, ch, cs) hok hr (a_cons (d_var 0) (a_cons (d_var 3) a_nil))))
    (b_cons (s_par (ra := dat K (litD a)) (rb := dat K (litD b)) 4 5 (a_cons (d_ix ix_list (opd_ixL (ds := ch.map litD) (d := litD a) ?x0) (d_var 3) d_int) (a_cons (d_ix ix_list (opd_ixL (ds := ch.map litD) (d := litD b) ?x1) (d_var 3) (d_un un_neg (und_neg (i := 1)) d_int)) a_nil)))
    (b_no (t_w (w_or (k := false) (k' := false) (t_cmp (op_neP hu64) (opd_neT (α := Str) (x := b.1) (y := n) (by rw [decide_eq_true hnm]; rfl)) (d_ix ix_tup (opd_ixT (ds := [.str b.1, .bool b.2]) (d := .str b.1) rfl) (d_var 5) d_int) (d_var 2)) (fun _ => w_one (t_eq (t_w (w_and (k := !decide (a = neg b)) (k' := decide (a = neg b)) (t_cmp (op_neP hu64) (opd_neT (α := Lt) (x := a) (y := neg b) rfl) (d_var 4) (d_callT T.negate (ok_negate T) b trivial hr (a_cons (d_var 5) a_nil))) (fun hk => ?cond))) (by cases decide (a = neg b) <;> rfl)) (.inr rfl))))
    (b_ret (s_ret (d_if (k := b.2) (t_val (d_ix ix_tup (opd_ixT (ds := [.str b.1, .bool b.2]) (d := .bool b.2) rfl) (d_var 5) d_int)) (fun h => d_eq d_str ?r1) (fun h => d_eq d_str ?r2))))))))), .inl ⟨_, rfl⟩⟩
  case x0 => exact atI_zero (by rw [List.getElem?_map, hst]; rfl)
  case x1 => exact atI_last (n := cs.length) (by rw [List.length_map]; exact hok.len) (by rw [List.getElem?_map, hen]; rfl)
  case cond =>
    have h1 : ¬ a = neg b := by simpa using hk
    obtain ⟨h2, h3⟩ := hfr.resolve_left h1
    exact w_one (t_eq (t_not (k := true) (t_w (w_and (k := true) (k' := true) (t_val (d_ix ix_tup (opd_ixT (ds := [.str a.1, .bool a.2]) (d := .bool true) (by rw [h2]; rfl)) (d_var 4) d_int)) (fun _ => w_one (t_cmp op_in_seq (opd_inL (x := a.1) (xs := gv) (decide_eq_true h3)) (d_ix ix_tup (opd_ixT (ds := [.str a.1, .bool a.2]) (d := .str a.1) rfl) (d_var 4) d_int) (d_var 1)) (.inl rfl))))) (by rw [decide_eq_false h1]; rfl)) (.inl rfl)
  case r1 => rw [if_pos h]
  case r2 => rw [if_neg (by rw [h]; decide)]
end
end Fc
/-! FcSw: shows_conflict, shows_contradiction. -/
namespace Fc
open PySem PySem.W PySem.Spec PyProof.Rows L2
section
variable {P : Program} {w : World} {K : PySem.W.Frag} {mg : Str → Option Value} {base : Heap}
structure SwOk (g : Gm) (gv : List Str) (ch : List Lt) (cs : List Cl) (s b : Lt) : Prop where
  ok : ChOk g ch cs
  gvn : ∀ m ∈ gv, m ∈ g.names
  st : ch[0]? = some s
  en : ch[cs.length]? = some b
  s1 : s.2 = true
  s2 : s.1 ∈ gv
  b1 : b.2 = false
  b2 : b.1 ∈ gv
abbrev sp_shows_conflict (K : PySem.W.Frag) : Sp := spI (ι := Gm × List Str × List Lt × List Cl × Lt × Lt) (fun i => SwOk i.1 i.2.1 i.2.2.1 i.2.2.2.1 i.2.2.2.2.1 i.2.2.2.2.2) (fun i => [dat K (gmD i.1), dat K (.list (i.2.1.map .str)), dat K (.list (i.2.2.1.map litD))]) (fun i => dat K (.bool true))
theorem ok_shows_conflict (T : Txt K mg) : FnOk P w K mg base CX0 6 T.shows_conflict.a T.shows_conflict.d ["grammar", "given", "chain"] (sp_shows_conflict K) := by
  have nd := sc_shows_conflict.nd
  refine fn_pure T.shows_conflict.F sc_shows_conflict (fun _ => rfl) (fun cdv A outer s H E i hr hi => ?_)
  obtain ⟨g, gv, ch, cs, a, b⟩ := i
  obtain ⟨hok, hgv, hst, hen, h1, h2, h3, h4⟩ := hi
  dsimp only at hok hgv hst hen h1 h2 h3 h4
  have hlen := (GmOk.len hok.gm).2
  refine ⟨_, b_cons (s_expr (d_callT T.check_grammar (ok_check_grammar T) g hok.gm hr (a_cons (d_var 0) a_nil)))
    (b_cons (s_expr (d_callT T.check_names (ok_check_names T) (g, gv) ⟨hlen, hgv⟩ hr (a_cons (d_var 0) (a_cons (d_var 1) a_nil))))
    (b_cons (s_expr (d_callT T.clauses_of_chain (ok_clauses_of_chain T) (g, ch, cs) hok hr (a_cons (d_var 0) (a_cons (d_var 2) a_nil))))
    (b_cons (s_par (ra := dat K (litD a)) (rb := dat K (litD b)) 3 4 (a_cons (d_ix ix_list (opd_ixL (ds := ch.map litD) (d := litD a) ?x0) (d_var 2) d_int) (a_cons (d_ix ix_list (opd_ixL (ds := ch.map litD) (d := litD b) ?x1) (d_var 2) (d_un un_neg (und_neg (i := 1)) d_int)) a_nil)))
    (b_ret (s_ret (d_eq (d_and (k := true) (k' := true) (d_ix ix_tup (opd_ixT (ds := [.str a.1, .bool a.2]) (d := .bool true) (by rw [h1]; rfl)) (d_var 3) d_int)
      (fun _ => d_and (k := true) (k' := true) (d_cmp op_in_seq (opd_inL (x := a.1) (xs := gv) (decide_eq_true h2)) (d_ix ix_tup (opd_ixT (ds := [.str a.1, .bool a.2]) (d := .str a.1) rfl) (d_var 3) d_int) (d_var 1))
      (fun _ => d_and (k := true) (k' := true) (d_not (k := false) (d_ix ix_tup (opd_ixT (ds := [.str b.1, .bool b.2]) (d := .bool false) (by rw [h3]; rfl)) (d_var 4) d_int))
      (fun _ => d_one (d_cmp op_in_seq (opd_inL (x := b.1) (xs := gv) (decide_eq_true h4)) (d_ix ix_tup (opd_ixT (ds := [.str b.1, .bool b.2]) (d := .str b.1) rfl) (d_var 4) d_int) (d_var 1)))))) rfl)))))), .inl ⟨_, rfl⟩⟩
  case x0 => exact atI_zero (by rw [List.getElem?_map, hst]; rfl)
  case x1 => exact atI_last (n := cs.length) (by rw [List.length_map]; exact hok.len) (by rw [List.getElem?_map, hen]; rfl)
/-- two chains there and back -/
structure BkOk (g : Gm) (ch : List Lt) (cs : List Cl) (ch2 : List Lt) (cs2 : List Cl) (s : Lt) : Prop where
  ok : ChOk g ch cs
  ok2 : ChOk g ch2 cs2
  st : ch[0]? = some s
  en : ch[cs.length]? = some (neg s)
  st2 : ch2[0]? = some (neg s)
  en2 : ch2[cs2.length]? = some s
abbrev sp_shows_contradiction (K : PySem.W.Frag) : Sp := spI (ι := Gm × List Lt × List Cl × List Lt × List Cl × Lt) (fun i => BkOk i.1 i.2.1 i.2.2.1 i.2.2.2.1 i.2.2.2.2.1 i.2.2.2.2.2) (fun i => [dat K (gmD i.1), dat K (.tuple [.list (i.2.1.map litD), .list (i.2.2.2.1.map litD)])]) (fun i => dat K (.bool true))
theorem ok_shows_contradiction (T : Txt K mg) : FnOk P w K mg base CX0 6 T.shows_contradiction.a T.shows_contradiction.d ["grammar", "chains"] (sp_shows_contradiction K) := by
  have nd := sc_shows_contradiction.nd
  refine fn_pure T.shows_contradiction.F sc_shows_contradiction (fun _ => rfl) (fun cdv A outer s H E i hr hi => ?_)
  obtain ⟨g, ch, cs, ch2, cs2, a⟩ := i
  obtain ⟨hok, hok2, hst, hen, hst2, hen2⟩ := hi
  dsimp only at hok hok2 hst hen hst2 hen2
  have hu64 := hr.units
  have x0 : atI (ch.map litD) 0 = some (litD a) := atI_zero (by rw [List.getElem?_map, hst]; rfl)
  have x1 : atI (ch.map litD) (-1) = some (litD (neg a)) := atI_last (n := cs.length) (by rw [List.length_map]; exact hok.len) (by rw [List.getElem?_map, hen]; rfl)
  have y0 : atI (ch2.map litD) 0 = some (litD (neg a)) := atI_zero (by rw [List.getElem?_map, hst2]; rfl)
  have y1 : atI (ch2.map litD) (-1) = some (litD a) := atI_last (n := cs2.length) (by rw [List.length_map]; exact hok2.len) (by rw [List.getElem?_map, hen2]; rfl)
  refine ⟨_, b_cons (s_expr (d_callT T.check_grammar (ok_check_grammar T) g hok.gm hr (a_cons (d_var 0) a_nil)))
    (b_cons (s_asg (vs := [2, 3]) (d_var 1) (pg_tup rfl (pgs_cons (pg_name (i := 2) nd rfl (.inl rfl)) (pgs_cons (pg_name (i := 3) nd rfl (.inl rfl)) pgs_nil))) (tg_two (by decide) (by decide)))
    (b_cons (s_expr (d_callT T.clauses_of_chain (ok_clauses_of_chain T) (g, ch, cs) hok hr (a_cons (d_var 0) (a_cons (d_var 2) a_nil))))
    (b_cons (s_expr (d_callT T.clauses_of_chain (ok_clauses_of_chain T) (g, ch2, cs2) hok2 hr (a_cons (d_var 0) (a_cons (d_var 3) a_nil))))
    (b_ret (s_ret (d_eq (d_and (k := true) (k' := true) (d_cmp (op_eqP hu64) (opd_eqT (α := Lt) (x := neg a) (y := neg a) (decide_eq_true rfl)) (d_ix ix_list (opd_ixL (ds := ch.map litD) (d := litD (neg a)) x1) (d_var 2) (d_un un_neg (und_neg (i := 1)) d_int)) (d_callT T.negate (ok_negate T) a trivial hr (a_cons (d_ix ix_list (opd_ixL (ds := ch.map litD) (d := litD a) x0) (d_var 2) d_int) a_nil)))
      (fun _ => d_one (d_cmp (op_eqP hu64) (opd_eqT (α := Lt × Lt) (x := (neg a, a)) (y := (neg a, a)) (decide_eq_true rfl)) (d_tup (ds := [litD (neg a), litD a]) (a_cons (d_ix ix_list (opd_ixL (ds := ch2.map litD) (d := litD (neg a)) y0) (d_var 3) d_int) (a_cons (d_ix ix_list (opd_ixL (ds := ch2.map litD) (d := litD a) y1) (d_var 3) (d_un un_neg (und_neg (i := 1)) d_int)) a_nil)))
        (d_tup (ds := [litD (neg a), litD a]) (a_cons (d_ix ix_list (opd_ixL (ds := ch.map litD) (d := litD (neg a)) x1) (d_var 2) (d_un un_neg (und_neg (i := 1)) d_int)) (a_cons (d_ix ix_list (opd_ixL (ds := ch.map litD) (d := litD a) x0) (d_var 2) d_int) a_nil)))))) rfl)))))), .inl ⟨_, rfl⟩⟩
end
end Fc
/-! FcCi: Completion.__init__, completion_of, verdicts, explain_verdict where there is no conflict. -/
namespace Fc
open PySem PySem.W PySem.Spec PyProof.Rows L2
/-- the names given, sorted, each once -/
def gvS (ns : List Str) : List Str := sortT (dd ns)
theorem gvS_mem {ns : List Str} {n : Str} : n ∈ gvS ns ↔ n ∈ ns := sortT_mem.trans dd_mem
theorem gvS_len (ns : List Str) : (gvS ns).length ≤ ns.length := by
  unfold gvS
  rw [(sortT_perm _).length_eq]
  exact dd_len _
structure GvOk (g : Gm) (ns : List Str) : Prop where
  gm : GmOk g
  nm : ∀ n ∈ ns, n ∈ g.names
  few : ns.length ≤ 50
theorem GvOk.nm' {g : Gm} {ns : List Str} (h : GvOk g ns) : ∀ n ∈ gvS ns, n ∈ g.names := fun n hn => h.nm n (gvS_mem.mp hn)
theorem GvOk.few' {g : Gm} {ns : List Str} (h : GvOk g ns) : (gvS ns).length ≤ 100 := Nat.le_trans (gvS_len ns) (Nat.le_trans h.few (by decide))
section
variable {P : Program} {w : World} {K : PySem.W.Frag} {mg : Str → Option Value} {base : Heap}
theorem sh_cp {C CG x0 : Addr} {g : Gm} {ns : List Str} : Shares (insO x0 C [(("graph" : Str), grR P w K CG g), (("given" : Str), dat K (.list (ns.map .str)))]) (atR (cpR P w K C CG g ns) x0) := fun a B H hB ⟨hx, dx, us, h1, h2⟩ => by
  subst hx
  cases h2 with
  | cons h t =>
    cases t with
    | cons h' t =>
      cases t
      rename_i u u'
      obtain ⟨u1, u2⟩ := u
      obtain ⟨u3, u4⟩ := u'
      obtain ⟨rfl, hr⟩ := h
      obtain ⟨rfl, hr'⟩ := h'
      exact ⟨_, h1, rfl, a, dx, u2, u4, rfl, upd_same, Rp.mono _ (same_new hB) hr, Rp.mono _ (same_new hB) hr'⟩
abbrev sp_completion (P : Program) (w : World) (K : PySem.W.Frag) (C CG : Addr) : Sp := spMk (ι := Gm × List Str) C (fun i => GvOk i.1 i.2 ∧ conflC i.1 (gvS i.2) = none) (fun i => [dat K (gmD i.1), dat K (.list (i.2.map .str))]) (fun i => cpR P w K C CG i.1 (gvS i.2))
theorem ok_completion_init (T : Txt K mg) : FnOk P w K mg base CX0 6 T.Completion_init.a T.Completion_init.d ["self", "grammar", "given"] (sp_completion P w K T.C_Completion T.C_ImplicationGraph) := by
  have nd := sc_Completion_init.nd
  refine fn_mk T.Completion_init.F sc_Completion_init (fun _ => rfl) (fun cdv A outer s H E i x0 hr hi => ?_)
  obtain ⟨g, ns⟩ := i
  obtain ⟨hgv, hc⟩ := hi
  dsimp only at hgv hc
  have h128 := hu128 hr
  have hu64 := hr.units
  have hz := hgv.few
  have hz2 := hgv.few'
  have fg : FldOf K T.C_Completion "graph" (atR (cpR P w K T.C_Completion T.C_ImplicationGraph g (gvS ns)) x0) (grR P w K T.C_ImplicationGraph g) := fun v B h => cp_graph v B h.2
  have fv : FldOf K T.C_Completion "given" (atR (cpR P w K T.C_Completion T.C_ImplicationGraph g (gvS ns)) x0) (dat K (.list ((gvS ns).map .str))) := fun v B h => cp_given v B h.2
  refine ⟨[.per (atR (cpR P w K T.C_Completion T.C_ImplicationGraph g (gvS ns)) x0), .per (dat K (gmD g)), .per (dat K (.list (ns.map .str))), .per (dat K (oD (conflC g (gvS ns))))], b_cons (s_fld (x0 := x0) (fs := []) (f := "graph") 0 (d_callT T.graph_of (ok_graph_of T) g hgv.gm hr (a_cons (d_var 1) a_nil)) T.cl_Completion T.n_Completion_graph (fun _ h => nomatch h) (by decide))
    (b_cons (s_fld (x0 := x0) (fs := [(("graph" : Str), grR P w K T.C_ImplicationGraph g)]) (f := "given") 0 (d_sortSetS (ks := ns) (dd := dd ns) h128 T.z_sorted (d_setS hu64 T.z_set (d_var 2) (.inl rfl) (by omega)) (dd_nodup ns) (fun k => dd_mem) (Nat.le_trans (dd_len ns) (by omega))) T.cl_Completion T.n_Completion_given (fun p hp => by rw [List.mem_singleton.mp hp]; show ("graph" : Str) ≠ "given"; decide) (by show 1 < 1000; decide))
    (b_share 0 (sh_cp (P := P) (w := w) (K := K) (C := T.C_Completion) (CG := T.C_ImplicationGraph) (x0 := x0) (g := g) (ns := gvS ns))
    (b_cons (s_set 3 (d_callT T.conflict_chain (ok_conflict_chain T) (g, gvS ns) ⟨hgv.gm, hgv.nm', Nat.le_trans hz2 (by decide)⟩ hr (a_cons (d_fld fg T.cl_Completion T.n_Completion_graph (d_var 0)) (a_cons (d_fld fv T.cl_Completion T.n_Completion_given (d_var 0)) a_nil))))
    (b_no (t_cmp op_notN (opd_notN (d := oD (conflC g (gvS ns))) (by rw [hc]; rfl)) (d_var 3) d_non) b_nil)))), rfl⟩
end
end Fc
/-! FcCv: completion_of, verdicts, explain_verdict where there is no conflict. -/
namespace Fc
open PySem PySem.W PySem.Spec PyProof.Rows L2
structure FreeOk (g : Gm) (ns : List Str) : Prop where
  gv : GvOk g ns
  sat : findCon g = none
  con : conflC g (gvS ns) = none
noncomputable def verdL (g : Gm) (ns : List Str) : List (Key × PyData) := g.names.map fun n => ((.inr n : Key), .str (verdF g (gvS ns) n))
noncomputable def explF (g : Gm) (ns : List Str) (n : Str) : Option (List Lt) := if verdF g (gvS ns) n ∈ (["given", "possible"] : List Str) then none else chainFor g (gvS ns) (n, decide (verdF g (gvS ns) n = "required"))
section
variable {P : Program} {w : World} {K : PySem.W.Frag} {mg : Str → Option Value} {base : Heap}
abbrev sp_completion_of (P : Program) (w : World) (K : PySem.W.Frag) (C CG : Addr) : Sp := spI (ι := Gm × List Str) (fun i => FreeOk i.1 i.2) (fun i => [dat K (gmD i.1), dat K (.list (i.2.map .str))]) (fun i => cpR P w K C CG i.1 (gvS i.2))
theorem ok_completion_of (T : Txt K mg) : FnOk P w K mg base CX0 8 T.completion_of.a T.completion_of.d ["grammar", "given"] (sp_completion_of P w K T.C_Completion T.C_ImplicationGraph) := by
  have nd := sc_completion_of.nd
  refine fn_pure T.completion_of.F sc_completion_of (fun _ => rfl) (fun cdv A outer s H E i hr hi => ?_)
  obtain ⟨g, ns⟩ := i
  obtain ⟨hgv, hs, hc⟩ := hi
  dsimp only at hgv hs hc
  exact ⟨_, b_cons (s_expr (d_callT T.check_grammar (ok_check_grammar T) g hgv.gm hr (a_cons (d_var 0) a_nil)))
    (b_cons (s_expr (d_callT T.check_names (ok_check_names T) (g, ns) ⟨(GmOk.len hgv.gm).2, hgv.nm⟩ hr (a_cons (d_var 0) (a_cons (d_var 1) a_nil))))
    (b_cons (s_expr (d_callT T.check_satisfiable (ok_check_satisfiable T) g ⟨hgv.gm, hs⟩ hr (a_cons (d_var 0) a_nil)))
    (b_ret (s_ret (d_make T.mk_Completion (ok_completion_init T) (g, ns) ⟨hgv, hc⟩ hr rfl T.gC_Completion T.Completion_init.b (a_cons (d_var 0) (a_cons (d_var 1) a_nil)) rfl rfl))))), .inl ⟨_, rfl⟩⟩
abbrev sp_verdicts (K : PySem.W.Frag) : Sp := spI (ι := Gm × List Str) (fun i => FreeOk i.1 i.2) (fun i => [dat K (gmD i.1), dat K (.list (i.2.map .str))]) (fun i => kdR K (verdL i.1 i.2))
theorem ok_verdicts (T : Txt K mg) : FnOk P w K mg base CX0 9 T.verdicts.a T.verdicts.d ["grammar", "given"] (sp_verdicts K) := by
  have nd := sc_verdicts.nd
  refine fn_pure T.verdicts.F sc_verdicts (fun _ => rfl) (fun cdv A outer s H E i hr hi => ?_)
  obtain ⟨g, ns⟩ := i
  have hf := hi
  obtain ⟨hgv, hs, hc⟩ := hi
  dsimp only at hgv hs hc
  have hlen := (GmOk.len hgv.gm).2
  have hnl : g.names.length = g.ops.length := List.length_map _
  let ρ : Rho := [.per (dat K (gmD g)), .per (dat K (.list (ns.map .str))), .per (cpR P w K T.C_Completion T.C_ImplicationGraph g (gvS ns)), .no]
  refine ⟨.rt (kdR K (verdL g ns)) ρ, b_cons (s_set 2 (d_callT T.completion_of (ok_completion_of T) (g, ns) hf hr (a_cons (d_var 0) (a_cons (d_var 1) a_nil))))
    (b_ret (s_ret (d_share (n_dkT (ρ := ρ) (ρ0 := ρ) (xs := g.names) (ky := id) (f := fun n => .str (verdF g (gvS ns) n)) (dl_one g.names (fun n => dat K (.str n)) (fun n => .str n) (fun n => .str (verdF g (gvS ns) n)) 3 (i_listT (d_callT T.names_of (ok_names_of T) g hlen hr (a_cons (d_var 0) a_nil))) (blkOk_by (N := ["grammar", "given", "completion", "name"]) (sc := defScope s_verdicts) (by decide +kernel)) (fun _ _ _ _ _ => pg_name (i := 3) nd rfl (.inl rfl)) rfl (by omega)
      (fun n _ _ _ _ _ _ => d_var 3) (fun n hn _ _ _ _ _ => d_methT T.Completion_verdict (ok_verdict T) (g, gvS ns, n) ⟨hgv.gm, hgv.nm', hn, hgv.few'⟩ hr (cp_ins (by decide) (by decide)) T.cl_Completion T.m_Completion_verdict (d_var 2) (a_cons (d_var 3) a_nil)))) ?sh))), .inl ⟨_, rfl⟩⟩
  case sh =>
    have e : makeL (fun n : Str => (.inr (id n) : Key)) (fun n => PyData.str (verdF g (gvS ns) n)) g.names = verdL g ns := makeL_map _ _ (map_nodup (fun a b h => by injection h) hgv.gm.nd)
    rw [e]
    exact sh_kd K
abbrev sp_explain_verdict (K : PySem.W.Frag) : Sp := spI (ι := Gm × List Str × Str) (fun i => FreeOk i.1 i.2.1 ∧ i.2.2 ∈ i.1.names) (fun i => [dat K (gmD i.1), dat K (.list (i.2.1.map .str)), dat K (.str i.2.2)]) (fun i => dat K (oD (explF i.1 i.2.1 i.2.2)))
theorem ok_explain_verdict (T : Txt K mg) : FnOk P w K mg base CX0 9 T.explain_verdict.a T.explain_verdict.d ["grammar", "given", "name"] (sp_explain_verdict K) := by
  have nd := sc_explain_verdict.nd
  refine fn_pure T.explain_verdict.F sc_explain_verdict (fun _ => rfl) (fun cdv A outer s H E i hr hi => ?_)
  obtain ⟨g, ns, n⟩ := i
  obtain ⟨hf, hn⟩ := hi
  have hgv := hf.gv
  dsimp only at hgv hn
  have hlen := (GmOk.len hgv.gm).2
  refine ⟨.rt (dat K (oD (explF g ns n))) [.per (dat K (gmD g)), .per (dat K (.list (ns.map .str))), .per (dat K (.str n)), .per (cpR P w K T.C_Completion T.C_ImplicationGraph g (gvS ns)), .per (dat K (.str (verdF g (gvS ns) n)))],
    b_cons (s_set 3 (d_callT T.completion_of (ok_completion_of T) (g, ns) hf hr (a_cons (d_var 0) (a_cons (d_var 1) a_nil))))
    (b_cons (s_expr (d_callT T.check_names (ok_check_names T) (g, [n]) ⟨hlen, fun m hm => by rw [List.mem_singleton.mp hm]; exact hn⟩ hr (a_cons (d_var 0) (a_cons (d_lst (ds := [.str n]) (a_cons (d_var 2) a_nil)) a_nil))))
    (b_cons (s_set 4 (d_methT T.Completion_verdict (ok_verdict T) (g, gvS ns, n) ⟨hgv.gm, hgv.nm', hn, hgv.few'⟩ hr (cp_ins (by decide) (by decide)) T.cl_Completion T.m_Completion_verdict (d_var 3) (a_cons (d_var 2) a_nil)))
    (b_ifr (k := decide (verdF g (gvS ns) n ∈ (["given", "possible"] : List Str))) (t_cmp op_in_seq (opd_inT (x := verdF g (gvS ns) n) (xs := ["given", "possible"]) rfl) (d_var 4) (d_tup (ds := [.str "given", .str "possible"]) (a_cons d_str (a_cons d_str a_nil))))
      (fun h => b_ret (s_ret (d_eq d_non ?e1)))
      (fun h => b_ret (s_ret (d_eq (d_methT T.Completion_chain_for (ok_chain_for T) (g, gvS ns, (n, decide (verdF g (gvS ns) n = "required"))) ⟨hgv.gm, hgv.nm', hn, hgv.few'⟩ hr (cp_ins (by decide) (by decide)) T.cl_Completion T.m_Completion_chain_for (d_var 3) (a_cons (d_tup (ds := [.str n, .bool (decide (verdF g (gvS ns) n = "required"))]) (a_cons (d_var 2) (a_cons (d_cmp op_eq (opd_eqS rfl) (d_var 4) d_str) a_nil))) a_nil)) ?e2)))))), .inl ⟨_, rfl⟩⟩
  case e1 => rw [explF, if_pos (of_decide_eq_true h)]; rfl
  case e2 => rw [explF, if_neg (of_decide_eq_false h)]
end
end Fc
/-! FcLa: the law's row: a list that is owned by a frame and handed on by reference. -/
namespace Fc
open PySem PySem.W PySem.Spec PyProof.Rows L2
/-- what is left to draw from -/
structure Rw where
  ns : List Int
  i : Nat
  seed : Int
  rest : Int
structure RwOk (r : Rw) : Prop where
  seed : 0 ≤ r.seed ∧ r.seed < 2147483647
  rest : 0 ≤ r.rest
  few : r.ns.length ≤ 1000
def rwD (r : Rw) : List PyData := [.list (r.ns.map .int), .int (r.i : Int), .int r.seed, .int r.rest]
/-- the row, at x if that is told -/
def rowO (K : PySem.W.Frag) (o : Option Addr) (r : Rw) : Ow where
  p := fun a B H => (∀ x, o = some x → a = x) ∧ (lstO K (rwD r)).p a B H
  there := fun ⟨_, h⟩ => Ow.there _ h
  mono := fun s e ⟨h, k⟩ => ⟨h, Ow.mono _ s e k⟩
section
variable {K : PySem.W.Frag} {o : Option Addr} {r r' : Rw}
theorem opdO_row {i : Int} {d : PyData} (h : atI (rwD r) i = some d) : OpdO (rIxL K) (rowO K o r) (dat K (.int i)) (dat K d) := fun B H a y Q s ⟨_, hc⟩ hy q => opdO_ixL h B H a y Q s hc hy q
theorem opdP_row {k : Int} {d : PyData} {j : Nat} (hj : ixN 4 k = some j) (he : (rwD r).set j d = rwD r') : OpdP rSetL (rowO K o r) (dat K (.int k)) (dat K d) (rowO K o r') := fun B H a i v Q s ⟨hx, vs, h1, h2⟩ hi hv q => by
  obtain rfl := dp_int hi
  have hl : vs.length = 4 := dps_len h2
  refine ⟨a, vs, k, j, rfl, rfl, h1, by rw [hl]; exact hj, q _ ⟨hx, _, upd_same, ?_⟩⟩
  rw [← he]
  exact dps_set h2 hv j
where
  dps_set : ∀ {B : Hp} {vs : List V} {ds : List PyData} {v : V} {d : PyData}, DpAll K B vs ds → Dp K B v d → ∀ j : Nat, DpAll K B (vs.set j v) (ds.set j d)
    | _, _, _, _, _, .nil, _, _ => .nil
    | _, _, _, _, _, .cons h t, hv, 0 => .cons hv t
    | _, _, _, _, _, .cons h t, hv, j + 1 => .cons h (dps_set t hv j)
end
/-! ### the calls that get the row -/
theorem Evn.backBut {F B H B' H' : Hp} {σ : L2.St} {ρ : Rho} {i : Nat} {c d : Ow} {a : Addr} (e : Evn F B H σ ρ) (hi : ρ[i]? = some (.own c)) (ha : σ[i]? = some (some (.ref a))) (sb : Same B B') (s : Split (dropA (rest B H) a) B' H') (hB : B' a = none) (hd : d.p a B' H') : Evn F B' H' σ (ρ.set i (.own d)) := by
  obtain ⟨a', h1, hBa, hFa, hc⟩ := e.own i c hi
  rw [ha] at h1
  cases h1
  have dr : ∀ {b : Addr} {o : HO}, b ≠ a → rest B H b = some o → dropA (rest B H) a b = some o := fun {b o} hb h => by
    unfold dropA
    rw [if_neg hb]
    exact h
  have fr : ∀ b o, F b = some o → b ≠ a := fun b o h z => by
    rw [z, hFa] at h
    cases h
  refine ⟨⟨s.bas, fun b o h => s.frm b o (dr (fr b o h) (rest_of (e.sp.dis b o h) (e.sp.frm b o h))), fun b o h => s.dis b o (dr (fr b o h) (rest_of (e.sp.dis b o h) (e.sp.frm b o h)))⟩, by rw [List.length_set]; exact e.len, fun j r hj => ?_, fun j d' hj => ?_, fun j k d1 d2 b hj hk sj sk => ?_⟩
  · rcases set_get hj with ⟨rfl, e1, hl⟩ | ⟨hn, hj⟩
    · cases e1
    · obtain ⟨v, g1, g2⟩ := e.per j r hj
      exact ⟨v, g1, r.mono sb g2⟩
  · rcases set_get hj with ⟨rfl, e1, hl⟩ | ⟨hn, hj⟩
    · cases e1
      exact ⟨a, ha, hB, hFa, hd⟩
    · obtain ⟨b, g1, g2, g3, g4⟩ := e.own j d' hj
      have hba : b ≠ a := fun z => hn (by subst z; exact e.sep _ _ _ _ _ hi hj ha g1)
      obtain ⟨ob, ho⟩ := ne_some (d'.there g4)
      have q := dr hba (rest_of g2 ho)
      refine ⟨b, g1, s.dis b ob q, g3, d'.mono sb ?_ g4⟩
      rw [ho]
      exact s.frm b ob q
  · rcases set_get hj with ⟨rfl, e1, hl⟩ | ⟨hne, hj⟩
    · rcases set_get hk with ⟨rfl, _, _⟩ | ⟨hne', hk⟩
      · rfl
      · exact e.sep _ _ _ _ b hi hk sj sk
    · rcases set_get hk with ⟨rfl, e1, hl⟩ | ⟨hne', hk⟩
      · exact e.sep _ _ _ _ b hj hi sj sk
      · exact e.sep j k _ _ b hj hk sj sk
/-- the promise of a def that gets the row and leaves it as r' -/
def spW {ι : Type} (K : PySem.W.Frag) (pre : ι → Prop) (rs : ι → List Rp) (r r' : ι → Rw) (rv : ι → Rp) : Sp := fun vs H Q _ => ∃ i, pre i ∧ ∃ F B x tl, vs = V.ref x :: tl ∧ Split F B H ∧ B x = none ∧ F x = none ∧ (rowO K (some x) (r i)).p x B H ∧ Reps (rs i) tl B ∧
  ∀ v H' B', Same B B' → Split F B' H' → B' x = none → (rowO K (some x) (r' i)).p x B' H' → (rv i).p v B' → Q v H'
section
variable {P : Program} {w : World} {K : PySem.W.Frag} {mg : Str → Option Value} {base : Heap}
theorem fn_row {x qual : Str} {st : Stmt} {f : Addr} {fd : FuncData} {N ps : List Str} {k : Nat} {ι : Type} {pre : ι → Prop} {rs : ι → List Rp} {r r' : ι → Rw} {rv : ι → Rp} (F : Fun K x qual st f fd) (S : FnScope N ps (defScope st)) (hl : ∀ i, (rs i).length + 1 = ps.length)
    (body : ∀ (cdv : Value) (A : Around) (outer : List PySem.Env) (s : Shared) (H : Hp) (E : XK) (i : ι) (x0 : Addr), Room k (A.deeper (envOfC qual (defScope st) s.heap.objs.size f cdv)) → pre i →
      ∃ ρ', PSs (cxD P w K mg base N qual st f cdv A outer s H E) (defBody st) (tS (Sl.own (rowO K (some x0) (r i)) :: ((rs i).map Sl.per ++ List.replicate (N.length - ps.length) .no)) (.rt (rv i) ρ')) ∧ ρ'[0]? = some (.own (rowO K (some x0) (r' i)))) :
    FnOk P w K mg base CX0 (k + 1) f fd ps (spW K pre rs r r' rv) := by
  refine F.ok S (fun vs H Q E ⟨i, _, F, B, x, tl, e, _, _, _, _, hv, _⟩ => by rw [e, List.length_cons, hv.length]; exact hl i) (fun cdv A outer s H vs Q E hr ⟨i, hp, Fr, B, x, tl, ev, sp, hB, hF, hc, hv, q⟩ => ?_)
  subst ev
  obtain ⟨ρ', hb, ho⟩ := body cdv A outer s H E i x hr hp
  refine ⟨_, hb, ?_⟩
  have e := mk_start sp hv hB hF hc (N.length - ps.length)
  have hst : L2.start N (V.ref x :: tl) = some (.ref x) :: (tl.map some ++ List.replicate (N.length - ps.length) none) := by
    unfold L2.start
    rw [List.length_cons, hv.length, hl i]
    rfl
  rw [hst]
  refine ⟨Fr, B, e, fun v σ' H' B' s e' hv' => ?_⟩
  obtain ⟨a, g1, g2, g3, g4⟩ := e'.own 0 _ ho
  have ea : a = x := g4.1 x rfl
  subst ea
  exact q v H' B' s e'.sp g2 g4 hv'
end
section
variable {X : Cx} {C : Addr} {k : Nat} {p pos : Pos} {es : List Expr} {ρ ρ1 : Rho} {rs : List Rp} {x y : Str} {ι : Type} {pre : ι → Prop} {rsf : ι → List Rp} {r r' : ι → Rw} {rv : ι → Rp} {st : Stmt} {ps : List Str} {o : Option Addr} {py : Pos}
/-- f(row, ..) -/
theorem d_callW (G : GlT X.K X.mg x st ps) (F : FnOk X.prog X.w X.K X.mg X.base CX0 k G.a G.d ps (spW X.K pre rsf r r' rv)) (i : ι) (s : Nat) (hp : pre i) {kk : Nat} (hr : Room kk X.A) (ha : PA X es (tAs ρ ρ1 rs)) {rw0 rw1 : Rw} {rr : Rp}
    (h1 : rsf i = rs := by rfl) (h2 : r i = rw0 := by rfl) (h3 : r' i = rw1 := by rfl) (h4 : rv i = rr := by rfl) (hi : ρ[s]? = some (.own (rowO X.K o rw0)) := by rfl) (hi1 : ρ1[s]? = some (.own (rowO X.K o rw0)) := by rfl)
    (hkk : k ≤ kk := by decide) (hg : Gl X x := by rfl) (hN : X.N[s]? = some y := by rfl) (hv : Vis X.env.scope y := by first | exact Or.inl rfl | exact Or.inr (Or.inl rfl) | exact Or.inr (Or.inr rfl)) (hd : (y == ("__debug__" : Str)) = false := by decide) (hcd : (y == ("__classdict__" : Str)) = false := by decide)
    (hdb : (x == ("__debug__" : Str)) = false := by decide) (he : starEach (.Name y py :: es) X.env = (false, eval (.Name y py) X.env) :: starEach es X.env := by rfl) (hpl : (backTo pos (starEach es X.env)).any (·.1) = false := by rfl) :
    PE X (.Call (.Name x p) (.Name y py :: es) [] pos) (tE ρ (ρ1.set s (.own (rowO X.K o rw1))) rr) := by
  subst h1 h2 h3 h4
  refine PE.weak (pe_call F (E := fun _ _ _ => False) (hr.mono hkk) hg G.g G.F.kp G.b (.nil : Vals [] []) pass0 (pa_cons (pe_var hN hv hd hcd) ha he) hdb he hpl) fun σ H Q ⟨Fr, B, ev, q⟩ => ?_
  obtain ⟨a, g1, g2, g3, g4⟩ := ev.own s _ hi
  refine ⟨V.ref a, g1, Fr, B, ev, fun vs H1 B1 s1 e1 hvs => ?_⟩
  obtain ⟨a', g1', g2', g3', g4'⟩ := e1.own s _ hi1
  obtain rfl : a = a' := by
    rw [g1] at g1'
    injection g1' with z
    injection z with z
    injection z
  have sp0 := e1.sp.rest
  refine ⟨i, hp, dropA (rest B1 H1) a, B1, a, vs, by rw [List.append_nil], ⟨sp0.bas, fun b u h => ?_, fun b u h => ?_⟩, g2', by unfold dropA; exact if_pos rfl, ⟨fun x h => by injection h, g4'.2⟩, hvs, fun v H' B' sb sp hB hrow hr => ?_⟩
  · unfold dropA at h
    split at h
    · cases h
    · exact sp0.frm b u h
  · unfold dropA at h
    split at h
    · cases h
    · exact sp0.dis b u h
  · exact q v H' B' (s1.trans sb) (e1.backBut hi1 g1 sb sp hB ⟨g4'.1, hrow.2⟩) hr
end
/-! ### a number below m -/
def takeR (m : Int) (r : Rw) : Int × Rw :=
  if r.rest > 0 then (r.rest % m, { r with rest := r.rest / m })
  else match r.ns[r.i]? with
    | none => (((r.seed * 48271 + 11) % 2147483647 / 7) % m, { r with i := r.i + 1, seed := (r.seed * 48271 + 11) % 2147483647 })
    | some c => (c % m, { r with i := r.i + 1, seed := (r.seed * 48271 + c + 11) % 2147483647, rest := if c ≥ 1000000000000000000 then c / m else 0 })
theorem takeR_ok {m : Int} {r : Rw} (hm : 1 ≤ m) (h : RwOk r) : 0 ≤ (takeR m r).1 ∧ (takeR m r).1 < m ∧ RwOk (takeR m r).2 ∧ (takeR m r).2.ns = r.ns := by
  have h0 : 0 ≤ m := by omega
  have hmm : ∀ z : Int, 0 ≤ z % m ∧ z % m < m := fun z => ⟨Int.emod_nonneg _ (by omega), Int.emod_lt_of_pos _ (by omega)⟩
  have hM : ∀ z : Int, 0 ≤ z % 2147483647 ∧ z % 2147483647 < 2147483647 := fun z => by omega
  unfold takeR
  split
  · exact ⟨(hmm _).1, (hmm _).2, ⟨h.seed, Int.ediv_nonneg h.rest h0, h.few⟩, rfl⟩
  · split
    · exact ⟨(hmm _).1, (hmm _).2, ⟨hM _, h.rest, h.few⟩, rfl⟩
    · rename_i c hc
      refine ⟨(hmm _).1, (hmm _).2, ⟨hM _, ?_, h.few⟩, rfl⟩
      show 0 ≤ if c ≥ 1000000000000000000 then c / m else 0
      split
      · exact Int.ediv_nonneg (by omega) h0
      · exact Int.le_refl _
section
variable {X : Cx} {pos p : Pos} {ρ ρ1 : Rho} {a : Expr}
/-- int(n) -/
theorem d_int1 {n : Int} (zi : X.mg "int" = none) (ha : PE X a (tE ρ ρ1 (dat X.K (.int n)))) (hg : Gl X "int" := by rfl) (he : starEach [a] X.env = (false, eval a X.env) :: starEach [] X.env := by rfl) : PE X (.Call (.Name "int" p) [a] [] pos) (tE ρ ρ1 (dat X.K (.int n))) :=
  d_callTy call_int1 (fun B H vs Q s hv q => by
    cases hv with
    | cons h1 t =>
      cases t
      cases h1
      exact .inl ⟨n, rfl, q _ B H (Grow.refl s) (Dp.int _)⟩) hg zi boot_tint (a_cons ha a_nil he) (by decide) (by decide) he
end
section
variable {P : Program} {w : World} {K : PySem.W.Frag} {mg : Str → Option Value} {base : Heap}
theorem divW_ok {i m : Int} (h : 1 ≤ m ∧ m ≤ 1000) : CDivW i m := wide_div (b := 10) (by omega) (by omega) (by decide) (by decide)
abbrev sp_taken (K : PySem.W.Frag) : Sp := spW (ι := Rw × Int) K (fun i => RwOk i.1 ∧ 1 ≤ i.2 ∧ i.2 ≤ 1000) (fun i => [dat K (.int i.2)]) (fun i => i.1) (fun i => (takeR i.2 i.1).2) (fun i => dat K (.int (takeR i.2 i.1).1))
theorem op_gt' {X : Cx} : OpR X (compareOp .Gt) (rI0 fun i j => .bl (decide (j < i))) := L2.op_gt
theorem ok_taken (T : Txt K mg) : FnOk P w K mg base CX0 1 T.law_taken.a T.law_taken.d ["_law_row", "_law_many"] (sp_taken K) := by
  have nd := sc_law_taken.nd
  refine fn_row T.law_taken.F sc_law_taken (fun _ => rfl) (fun cdv A outer s H E i x0 hr hi => ?_)
  obtain ⟨r, m⟩ := i
  obtain ⟨hr0, hm1, hm2⟩ := hi
  dsimp only at hr0 hm1 hm2
  have hs := hr0.seed
  let st : Rw → Rho := fun r => [.own (rowO K (some x0) r), .per (dat K (.int m)), .no, .no]
  have ml : ∀ z : Int, CMulW r.seed 48271 := fun z => wide_mul (a := 31) (b := 16) (by omega) (by decide) (by decide) (by decide) (by decide)
  by_cases hpos : r.rest > 0
  · have e : takeR m r = (r.rest % m, { r with rest := r.rest / m }) := if_pos hpos
    refine ⟨(st { r with rest := r.rest / m }).set 2 (.per (dat K (.int (r.rest % m)))), b_ifr (k := true) (t_cmp op_gt' (opd_B0 (decide_eq_true hpos)) (d_ixO 0 ix_list (opdO_row (d := .int r.rest) rfl) d_int) d_int)
      (fun _ => b_cons (s_set 2 (d_bin op_mod (opd_I (show 0 < m by omega)) (d_int1 T.z_int (d_ixO 0 ix_list (opdO_row (d := .int r.rest) rfl) d_int)) (d_var 1)))
        (b_cons (s_put 0 set_list (opdP_row (r := r) (r' := { r with rest := r.rest / m }) (j := 3) rfl rfl) (d_bin op_fdivW (opd_I (divW_ok ⟨hm1, hm2⟩)) (d_ixO 0 ix_list (opdO_row (d := .int r.rest) rfl) d_int) (d_var 1)) d_int)
        (b_rep (r := dat K (.int (r.rest % m))) (b_ret (s_ret (d_var 2))) ?e1))) (fun h => nomatch h), ?e2⟩
    case e1 => intro v B h; rw [e]; exact h
    case e2 => rw [e]; rfl
  · have hz : r.rest = 0 := by have := hr0.rest; omega
    cases hc : r.ns[r.i]? with
    | none =>
      have hle : r.ns.length ≤ r.i := List.getElem?_eq_none_iff.mp hc
      have e : takeR m r = (((r.seed * 48271 + 11) % 2147483647 / 7) % m, { r with i := r.i + 1, seed := (r.seed * 48271 + 11) % 2147483647 }) := by unfold takeR; rw [if_neg hpos, hc]
      refine ⟨st { r with i := r.i + 1, seed := (r.seed * 48271 + 11) % 2147483647 }, b_no (t_cmp op_gt' (opd_B0 (decide_eq_false (by omega))) (d_ixO 0 ix_list (opdO_row (d := .int r.rest) rfl) d_int) d_int)
        (b_cons (s_put 0 set_list (opdP_row (r := r) (r' := { r with i := r.i + 1 }) (j := 1) rfl rfl) (d_bin op_add opd_I0 (d_ixO 0 ix_list (opdO_row (d := .int (r.i : Int)) rfl) d_int) d_int) d_int)
        (b_ifr (k := true) (t_cmp op_gt' (opd_B0 (i := (r.i : Int) + 1) (j := (r.ns.length : Int)) (decide_eq_true (by omega))) (d_ixO 0 ix_list (opdO_row (r := { r with i := r.i + 1 }) (d := .int ((r.i : Int) + 1)) rfl) d_int) (d_eq (d_lenL (ds := r.ns.map .int) T.z_len (d_ixO 0 ix_list (opdO_row (r := { r with i := r.i + 1 }) (d := .list (r.ns.map .int)) rfl) d_int)) (by rw [List.length_map])))
          (fun _ => b_cons (s_put 0 set_list (opdP_row (r := { r with i := r.i + 1 }) (r' := { r with i := r.i + 1, seed := (r.seed * 48271 + 11) % 2147483647 }) (j := 2) rfl rfl) (d_bin op_mod (opd_I (show (0 : Int) < 2147483647 by decide)) (d_int1 T.z_int (d_bin op_add opd_I0 (d_bin op_mulW (opd_I (ml 0)) (d_ixO 0 ix_list (opdO_row (r := { r with i := r.i + 1 }) (d := .int r.seed) rfl) d_int) d_int) d_int)) d_int) d_int)
            (b_rep (r := dat K (.int (((r.seed * 48271 + 11) % 2147483647 / 7) % m))) (b_ret (s_ret (d_bin op_mod (opd_I (show 0 < m by omega)) (d_int1 T.z_int (d_bin op_fdivW (opd_I (divW_ok ⟨by decide, by decide⟩)) (d_ixO 0 ix_list (opdO_row (r := { r with i := r.i + 1, seed := (r.seed * 48271 + 11) % 2147483647 }) (d := .int ((r.seed * 48271 + 11) % 2147483647)) rfl) d_int) d_int)) (d_var 1)))) ?e1)) (fun h => nomatch h))), ?e2⟩
      case e1 => intro v B h; rw [e]; exact h
      case e2 => rw [e]; rfl
    | some c =>
      have hlt : r.i < r.ns.length := (List.getElem?_eq_some_iff.mp hc).1
      let r2 : Rw := { r with i := r.i + 1, seed := (r.seed * 48271 + c + 11) % 2147483647 }
      let r3 : Rw := { r2 with rest := if c ≥ 1000000000000000000 then c / m else 0 }
      have e : takeR m r = (c % m, r3) := by unfold takeR; rw [if_neg hpos, hc]
      have hat : atI (r.ns.map PyData.int) ((r.i : Int) + 1 - 1) = some (.int c) := by
        rw [show ((r.i : Int) + 1 - 1) = ((r.i : Nat) : Int) by omega]
        exact atI_nat (by rw [List.getElem?_map, hc]; rfl)
      refine ⟨(st r3).set 3 (.per (dat K (.int c))), b_no (t_cmp op_gt' (opd_B0 (decide_eq_false (by omega))) (d_ixO 0 ix_list (opdO_row (d := .int r.rest) rfl) d_int) d_int)
        (b_cons (s_put 0 set_list (opdP_row (r := r) (r' := { r with i := r.i + 1 }) (j := 1) rfl rfl) (d_bin op_add opd_I0 (d_ixO 0 ix_list (opdO_row (d := .int (r.i : Int)) rfl) d_int) d_int) d_int)
        (b_no (t_cmp op_gt' (opd_B0 (i := (r.i : Int) + 1) (j := (r.ns.length : Int)) (decide_eq_false (by omega))) (d_ixO 0 ix_list (opdO_row (r := { r with i := r.i + 1 }) (d := .int ((r.i : Int) + 1)) rfl) d_int) (d_eq (d_lenL (ds := r.ns.map .int) T.z_len (d_ixO 0 ix_list (opdO_row (r := { r with i := r.i + 1 }) (d := .list (r.ns.map .int)) rfl) d_int)) (by rw [List.length_map])))
        (b_cons (s_set 3 (d_ix ix_list (opd_ixL (ds := r.ns.map .int) (d := .int c) hat) (d_ixO 0 ix_list (opdO_row (r := { r with i := r.i + 1 }) (d := .list (r.ns.map .int)) rfl) d_int) (d_bin op_sub opd_I0 (d_ixO 0 ix_list (opdO_row (r := { r with i := r.i + 1 }) (d := .int ((r.i : Int) + 1)) rfl) d_int) d_int)))
        (b_cons (s_put 0 set_list (opdP_row (r := { r with i := r.i + 1 }) (r' := r2) (j := 2) rfl rfl) (d_bin op_mod (opd_I (show (0 : Int) < 2147483647 by decide)) (d_int1 T.z_int (d_bin op_add opd_I0 (d_bin op_add opd_I0 (d_bin op_mulW (opd_I (ml 0)) (d_ixO 0 ix_list (opdO_row (r := { r with i := r.i + 1 }) (d := .int r.seed) rfl) d_int) d_int) (d_var 3)) d_int)) d_int) d_int)
        (b_cons (s_put 0 set_list (opdP_row (r := r2) (r' := r3) (j := 3) rfl rfl) (d_if (k := decide (c ≥ 1000000000000000000)) (t_cmp op_ge (opd_B0 (i := c) (j := 10 ^ 18) rfl) (d_var 3) (d_bin op_pow (opd_I (g := fun i j => i ^ j.toNat) (i := 10) (j := 18) ⟨by decide, by decide, by decide⟩) d_int d_int))
            (fun h => d_eq (d_bin op_fdivW (opd_I (divW_ok ⟨hm1, hm2⟩)) (d_var 3) (d_var 1)) ?y1) (fun h => d_eq d_int ?y2)) d_int)
        (b_rep (r := dat K (.int (c % m))) (b_ret (s_ret (d_bin op_mod (opd_I (show 0 < m by omega)) (d_int1 T.z_int (d_var 3)) (d_var 1)))) ?e1)))))), ?e2⟩
      case e1 => intro v B h; rw [e]; exact h
      case e2 => rw [e]; rfl
      case y1 => show _ = PyData.int (if c ≥ 1000000000000000000 then c / m else 0); rw [if_pos (of_decide_eq_true h)]
      case y2 => show _ = PyData.int (if c ≥ 1000000000000000000 then c / m else 0); rw [if_neg (of_decide_eq_false h)]
end
end Fc
/-! FcLb: what the law draws: kinds, clauses, grammars, given options. -/
namespace Fc
open PySem PySem.W PySem.Spec PyProof.Rows L2
/-! ### the mirror -/
def iterR {α : Type} (f : Nat → Rw → α × Rw) : Nat → Rw → List α × Rw
  | 0, r => ([], r)
  | n + 1, r => ((iterR f n r).1 ++ [(f n (iterR f n r).2).1], (f n (iterR f n r).2).2)
theorem iterR_len {α : Type} (f : Nat → Rw → α × Rw) : ∀ (n : Nat) (r : Rw), (iterR f n r).1.length = n
  | 0, r => rfl
  | n + 1, r => by
    unfold iterR
    rw [List.length_append, iterR_len f n r]
    rfl
theorem iterR_get {α : Type} (f : Nat → Rw → α × Rw) : ∀ (n : Nat) (r : Rw) (i : Nat), i < n → (iterR f n r).1[i]? = some (f i (iterR f i r).2).1
  | n + 1, r, i, h => by
    show ((iterR f n r).1 ++ [(f n (iterR f n r).2).1])[i]? = _
    by_cases hi : i < n
    · rw [List.getElem?_append_left (by rw [iterR_len]; exact hi)]
      exact iterR_get f n r i hi
    · obtain rfl : i = n := by omega
      rw [List.getElem?_append_right (by rw [iterR_len]; exact Nat.le_refl _), iterR_len, Nat.sub_self]
      rfl
theorem iterR_ok {α : Type} {f : Nat → Rw → α × Rw} {ns : List Int} (h : ∀ i r, RwOk r → r.ns = ns → RwOk (f i r).2 ∧ (f i r).2.ns = ns) : ∀ (n : Nat) (r : Rw), RwOk r → r.ns = ns → RwOk (iterR f n r).2 ∧ (iterR f n r).2.ns = ns
  | 0, r, h1, h2 => ⟨h1, h2⟩
  | n + 1, r, h1, h2 => h n _ (iterR_ok h n r h1 h2).1 (iterR_ok h n r h1 h2).2
theorem iterR_all {α : Type} {f : Nat → Rw → α × Rw} {Q : α → Prop} (h : ∀ i r, RwOk r → RwOk (f i r).2 ∧ Q (f i r).1) : ∀ (n : Nat) (r : Rw), RwOk r → RwOk (iterR f n r).2 ∧ ∀ a ∈ (iterR f n r).1, Q a
  | 0, r, h1 => ⟨h1, fun a ha => nomatch ha⟩
  | n + 1, r, h1 => by
    obtain ⟨k1, k2⟩ := iterR_all h n r h1
    refine ⟨(h n _ k1).1, fun a ha => ?_⟩
    have ha : a ∈ (iterR f n r).1 ++ [(f n (iterR f n r).2).1] := ha
    rcases List.mem_append.mp ha with ha | ha
    · exact k2 a ha
    · rw [List.mem_singleton.mp ha]
      exact (h n _ k1).2
def pickR (ds : List PyData) (r : Rw) : PyData × Rw := (ds.getD (takeR ds.length r).1.toNat .none, (takeR ds.length r).2)
def reds : List Str := ["red", "green", "grey", "blue"]
def kindR (r : Rw) : Kd × Rw :=
  if (takeR 5 r).1 = 0 then (.int ((takeR 30 (takeR 5 r).2).1 - 15) ((takeR 30 (takeR 5 r).2).1 - 15 + (takeR 200 (takeR 30 (takeR 5 r).2).2).1), (takeR 200 (takeR 30 (takeR 5 r).2).2).2)
  else if (takeR 5 r).1 = 1 then (.ch (reds.take (1 + (takeR 4 (takeR 5 r).2).1).toNat), (takeR 4 (takeR 5 r).2).2)
  else if (takeR 5 r).1 = 2 then (.word, (takeR 5 r).2) else (.none, (takeR 5 r).2)
def words4 : List Str := ["needs", "needs", "excludes", "either"]
def nameAt (ops : List Op) (i : Int) : Str := (ops.map (·.name)).getD i.toNat ""
def clauseR (ops : List Op) (r : Rw) : Cl × Rw :=
  (⟨words4.getD (takeR 4 r).1.toNat "", nameAt ops (takeR ops.length (takeR 4 r).2).1, nameAt ops (takeR ops.length (takeR ops.length (takeR 4 r).2).2).1⟩, (takeR ops.length (takeR ops.length (takeR 4 r).2).2).2)
def clausesR (ops : List Op) (m : Int) (r : Rw) : List Cl × Rw := iterR (fun _ => clauseR ops) (takeR (m + 1) r).1.toNat (takeR (m + 1) r).2
def names6 : List Str := ["sign", "key", "raw", "color", "a-b", "keep"]
def lets6 : Str := "skrcab"
def letAt (k : Nat) : Str := match lets6.cps.toList[k]? with
  | some c => ⟨#[c]⟩
  | none => ""
def opR (k : Nat) (r : Rw) : Op × Rw := (⟨names6.getD k "", if (takeR 3 r).1 > 0 then letAt k else "", (kindR (takeR 3 r).2).1⟩, (kindR (takeR 3 r).2).2)
def opsR (r : Rw) : List Op × Rw := iterR opR (1 + (takeR 5 r).1).toNat (takeR 5 r).2
def gramR (r : Rw) : Gm × Rw :=
  let o := opsR r
  let a := takeR 2 o.2
  let b := takeR 3 a.2
  let c := clausesR o.1 7 b.2
  (⟨o.1, a.1, a.1 + b.1, c.1⟩, c.2)
def givenR (g : Gm) (r : Rw) : List Str × Rw := iterR (fun _ r => (g.names.getD (takeR g.names.length r).1.toNat "", (takeR g.names.length r).2)) (takeR 4 r).1.toNat (takeR 4 r).2
/-! ### what holds of it -/
theorem kindR_ok {r : Rw} (h : RwOk r) : RwOk (kindR r).2 ∧ KdOk (kindR r).1 ∧ (kindR r).2.ns = r.ns := by
  obtain ⟨a1, a2, a3, a4⟩ := takeR_ok (m := 5) (by decide) h
  unfold kindR
  split
  · obtain ⟨b1, b2, b3, b4⟩ := takeR_ok (m := 30) (by decide) a3
    obtain ⟨c1, c2, c3, c4⟩ := takeR_ok (m := 200) (by decide) b3
    exact ⟨c3, ⟨by omega, by omega, by omega⟩, c4.trans (b4.trans a4)⟩
  · split
    · obtain ⟨b1, b2, b3, b4⟩ := takeR_ok (m := 4) (by decide) a3
      refine ⟨b3, ?_, b4.trans a4⟩
      show KdOk (.ch (reds.take (1 + (takeR 4 (takeR 5 r).2).1).toNat))
      obtain ⟨n, hn, e⟩ : ∃ n : Nat, n < 4 ∧ (1 + (takeR 4 (takeR 5 r).2).1).toNat = n + 1 := ⟨(takeR 4 (takeR 5 r).2).1.toNat, by omega, by omega⟩
      rw [e]
      have lo : ∀ z ∈ reds, LowOk z 12 ∧ 1 ≤ z.length := by
        intro z hz
        have hz' : z = "red" ∨ z = "green" ∨ z = "grey" ∨ z = "blue" := by simpa [reds] using hz
        rcases hz' with rfl | rfl | rfl | rfl <;> exact ⟨⟨by decide +kernel, by decide, by decide +kernel⟩, by decide +kernel⟩
      have hl : (reds.take (n + 1)).length = n + 1 := by rw [List.length_take]; show min (n + 1) 4 = _; omega
      exact ⟨by omega, by omega, List.Nodup.sublist (List.take_sublist _ _) (by decide +kernel), fun z hz => lo z (List.take_subset _ _ hz)⟩
    · split
      · exact ⟨a3, trivial, a4⟩
      · exact ⟨a3, trivial, a4⟩
theorem getD_mem {α : Type} {xs : List α} {d : α} {i : Nat} (h : i < xs.length) : xs.getD i d ∈ xs := by
  rw [List.getD_eq_getElem?_getD, List.getElem?_eq_getElem h]
  exact List.getElem_mem h
theorem nameAt_mem {ops : List Op} {i : Int} (h0 : 0 ≤ i) (h : i < (ops.length : Int)) : nameAt ops i ∈ ops.map (·.name) := getD_mem (by rw [List.length_map]; omega)
theorem clauseR_ok {ops : List Op} (hl : 1 ≤ ops.length) {r : Rw} (h : RwOk r) : RwOk (clauseR ops r).2 ∧ (clauseR ops r).1.word ∈ (["needs", "excludes", "either"] : List Str) ∧ (clauseR ops r).1.a ∈ ops.map (·.name) ∧ (clauseR ops r).1.b ∈ ops.map (·.name) := by
  obtain ⟨a1, a2, a3, a4⟩ := takeR_ok (m := 4) (by decide) h
  obtain ⟨b1, b2, b3, b4⟩ := takeR_ok (m := ops.length) (by omega) a3
  obtain ⟨c1, c2, c3, c4⟩ := takeR_ok (m := ops.length) (by omega) b3
  refine ⟨c3, ?_, nameAt_mem b1 b2, nameAt_mem c1 c2⟩
  show words4.getD (takeR 4 r).1.toNat "" ∈ _
  have hm : words4.getD (takeR 4 r).1.toNat "" ∈ words4 := getD_mem (by show _ < 4; omega)
  revert hm
  generalize words4.getD (takeR 4 r).1.toNat "" = z
  intro hm
  have hz : z = "needs" ∨ z = "needs" ∨ z = "excludes" ∨ z = "either" := by simpa [words4] using hm
  rcases hz with rfl | rfl | rfl | rfl <;> simp
theorem clausesR_ok {ops : List Op} (hl : 1 ≤ ops.length) {r : Rw} (h : RwOk r) : RwOk (clausesR ops 7 r).2 ∧ (clausesR ops 7 r).1.length ≤ 7 ∧ ∀ c ∈ (clausesR ops 7 r).1, c.word ∈ (["needs", "excludes", "either"] : List Str) ∧ c.a ∈ ops.map (·.name) ∧ c.b ∈ ops.map (·.name) := by
  obtain ⟨a1, a2, a3, a4⟩ := takeR_ok (m := 7 + 1) (by decide) h
  obtain ⟨b1, b2⟩ := iterR_all (f := fun _ => clauseR ops) (Q := fun c => c.word ∈ (["needs", "excludes", "either"] : List Str) ∧ c.a ∈ ops.map (·.name) ∧ c.b ∈ ops.map (·.name)) (fun _ r hr => clauseR_ok hl hr) (takeR (7 + 1) r).1.toNat _ a3
  exact ⟨b1, by unfold clausesR; rw [iterR_len]; omega, b2⟩
theorem opR_ok {k : Nat} (hk : k < 5) {r : Rw} (h : RwOk r) : RwOk (opR k r).2 ∧ OpOk (opR k r).1 := by
  obtain ⟨a1, a2, a3, a4⟩ := takeR_ok (m := 3) (by decide) h
  obtain ⟨b1, b2, b3⟩ := kindR_ok a3
  refine ⟨b1, ?_, ?_, b2⟩
  · show NameOk (names6.getD k "")
    have key : ∀ k : Nat, k < 5 → NameOk (names6.getD k "") := by
      intro k hk
      match k, hk with
      | 0, _ => exact ⟨by decide +kernel, ⟨115, by decide +kernel, by decide +kernel⟩, ⟨110, by decide +kernel, by decide +kernel⟩, by decide +kernel⟩
      | 1, _ => exact ⟨by decide +kernel, ⟨107, by decide +kernel, by decide +kernel⟩, ⟨121, by decide +kernel, by decide +kernel⟩, by decide +kernel⟩
      | 2, _ => exact ⟨by decide +kernel, ⟨114, by decide +kernel, by decide +kernel⟩, ⟨119, by decide +kernel, by decide +kernel⟩, by decide +kernel⟩
      | 3, _ => exact ⟨by decide +kernel, ⟨99, by decide +kernel, by decide +kernel⟩, ⟨114, by decide +kernel, by decide +kernel⟩, by decide +kernel⟩
      | 4, _ => exact ⟨by decide +kernel, ⟨97, by decide +kernel, by decide +kernel⟩, ⟨98, by decide +kernel, by decide +kernel⟩, by decide +kernel⟩
    exact key k hk
  · show LowOk (if (takeR 3 r).1 > 0 then letAt k else "") 1
    split
    · have key : ∀ k : Nat, k < 5 → LowOk (letAt k) 1 := by
        intro k hk
        match k, hk with
        | 0, _ => exact ⟨by decide +kernel, by decide, by decide +kernel⟩
        | 1, _ => exact ⟨by decide +kernel, by decide, by decide +kernel⟩
        | 2, _ => exact ⟨by decide +kernel, by decide, by decide +kernel⟩
        | 3, _ => exact ⟨by decide +kernel, by decide, by decide +kernel⟩
        | 4, _ => exact ⟨by decide +kernel, by decide, by decide +kernel⟩
      exact key k hk
    · exact ⟨by decide +kernel, by decide, by decide +kernel⟩
theorem opR_name (k : Nat) (r : Rw) : (opR k r).1.name = names6.getD k "" := rfl
theorem opR_sh (k : Nat) (r : Rw) : (opR k r).1.sh = letAt k ∨ (opR k r).1.sh = "" := by
  unfold opR
  dsimp only
  split
  · exact .inl rfl
  · exact .inr rfl
theorem ops_names (r : Rw) : ∀ n, n ≤ 6 → (iterR opR n r).1.map (·.name) = names6.take n
  | 0, _ => rfl
  | n + 1, h => by
    unfold iterR
    rw [List.map_append, ops_names r n (by omega), List.take_add_one]
    show names6.take n ++ [names6.getD n ""] = _
    rw [List.getD_eq_getElem?_getD, List.getElem?_eq_getElem (show n < names6.length from h)]
    rfl
theorem ops_sh (r : Rw) : ∀ n, n ≤ 5 → (∀ z ∈ ((iterR opR n r).1.filter fun o => !decide (o.sh = ("" : Str))).map (·.sh), ∃ k, k < n ∧ z = letAt k) ∧ (((iterR opR n r).1.filter fun o => !decide (o.sh = ("" : Str))).map (·.sh)).Nodup
  | 0, _ => ⟨fun z hz => (nomatch hz), List.nodup_nil⟩
  | n + 1, h => by
    obtain ⟨h1, h2⟩ := ops_sh r n (by omega)
    have inj : ∀ i j : Nat, i < 5 → j < 5 → letAt i = letAt j → i = j := by
      have key : ∀ i : Fin 5, ∀ j : Fin 5, letAt i.1 = letAt j.1 → i = j := by decide +kernel
      intro i j hi hj e
      exact congrArg Fin.val (key ⟨i, hi⟩ ⟨j, hj⟩ e)
    unfold iterR
    rw [List.filter_append, List.map_append]
    by_cases hs : (opR n (iterR opR n r).2).1.sh = ""
    · rw [List.filter_cons_of_neg (by simp [hs]), List.filter_nil, List.map_nil, List.append_nil]
      exact ⟨fun z hz => let ⟨k, a, b⟩ := h1 z hz; ⟨k, by omega, b⟩, h2⟩
    · have e := (opR_sh n (iterR opR n r).2).resolve_right hs
      rw [List.filter_cons_of_pos (by simp [hs]), List.filter_nil, List.map_singleton, e]
      refine ⟨fun z hz => ?_, ?_⟩
      · rcases List.mem_append.mp hz with hz | hz
        · obtain ⟨k, a, b⟩ := h1 z hz
          exact ⟨k, by omega, b⟩
        · exact ⟨n, by omega, List.mem_singleton.mp hz⟩
      · refine List.nodup_append.mpr ⟨h2, by simp, fun a ha b hb z => ?_⟩
        obtain ⟨k, k1, k2⟩ := h1 a ha
        rw [List.mem_singleton.mp hb, k2] at z
        have := inj k n (by omega) (by omega) z
        omega
theorem opsR_ok {r : Rw} (h : RwOk r) : RwOk (opsR r).2 ∧ OpsOk (opsR r).1 := by
  obtain ⟨a1, a2, a3, a4⟩ := takeR_ok (m := 5) (by decide) h
  obtain ⟨n, hn1, hn2, e⟩ : ∃ n : Nat, 1 ≤ n ∧ n ≤ 5 ∧ (1 + (takeR 5 r).1).toNat = n := ⟨(1 + (takeR 5 r).1).toNat, by omega, by omega, rfl⟩
  unfold opsR
  rw [e]
  have key : ∀ n, n ≤ 5 → RwOk (iterR opR n (takeR 5 r).2).2 ∧ ∀ o ∈ (iterR opR n (takeR 5 r).2).1, OpOk o := by
    intro n
    induction n with
    | zero => intro _; exact ⟨a3, fun o ho => nomatch ho⟩
    | succ n ih =>
      intro hn
      obtain ⟨k1, k2⟩ := ih (by omega)
      have k3 := opR_ok (show n < 5 by omega) k1
      refine ⟨k3.1, fun o ho => ?_⟩
      unfold iterR at ho
      rcases List.mem_append.mp ho with ho | ho
      · exact k2 o ho
      · rw [List.mem_singleton.mp ho]; exact k3.2
  obtain ⟨k1, k2⟩ := key n hn2
  refine ⟨k1, ⟨by rw [iterR_len]; exact ⟨hn1, hn2⟩, ?_, (ops_sh _ n hn2).2, k2⟩⟩
  rw [ops_names _ n (by omega)]
  exact List.Nodup.sublist (List.take_sublist _ _) (by decide +kernel)
theorem gramR_ok {r : Rw} (h : RwOk r) : RwOk (gramR r).2 ∧ GmOk (gramR r).1 := by
  obtain ⟨o1, o2⟩ := opsR_ok h
  obtain ⟨a1, a2, a3, a4⟩ := takeR_ok (m := 2) (by decide) o1
  obtain ⟨b1, b2, b3, b4⟩ := takeR_ok (m := 3) (by decide) a3
  obtain ⟨c1, c2, c3⟩ := clausesR_ok o2.len.1 b3
  exact ⟨c1, ⟨o2.len, o2.nd, o2.shd, o2.op, ⟨a1, by show (takeR 2 (opsR r).2).1 ≤ (takeR 2 (opsR r).2).1 + _; omega, by show (takeR 2 (opsR r).2).1 + (takeR 3 (takeR 2 (opsR r).2).2).1 ≤ 9; omega⟩, c2, c3⟩⟩
theorem givenR_ok {g : Gm} (hg : GmOk g) {r : Rw} (h : RwOk r) : RwOk (givenR g r).2 ∧ (∀ n ∈ (givenR g r).1, n ∈ g.names) ∧ (givenR g r).1.length ≤ 3 := by
  obtain ⟨a1, a2, a3, a4⟩ := takeR_ok (m := 4) (by decide) h
  have hl : g.names.length = g.ops.length := List.length_map _
  have h1 := hg.len.1
  obtain ⟨b1, b2⟩ := iterR_all (f := fun _ r => (g.names.getD (takeR g.names.length r).1.toNat "", (takeR g.names.length r).2)) (Q := fun n => n ∈ g.names) (fun _ r hr => by
    obtain ⟨c1, c2, c3, c4⟩ := takeR_ok (m := g.names.length) (by omega) hr
    exact ⟨c3, getD_mem (by omega)⟩) (takeR 4 r).1.toNat _ a3
  exact ⟨b1, b2, by unfold givenR; rw [iterR_len]; omega⟩
end Fc
/-! FcLc: the defs that draw: _law_pick, _law_kind, _law_clauses, _law_grammar, _law_names, _law_given. -/
namespace Fc
open PySem PySem.W PySem.Spec PyProof.Rows L2
section
variable {X : Cx} {pos p : Pos} {ρ ρ1 : Rho} {a : Expr}
/-- tuple(xs) -/
theorem d_tupOf {ds : List PyData} (zt : X.mg "tuple" = none) (ha : PE X a (tE ρ ρ1 (dat X.K (.list ds)))) (hg : Gl X "tuple" := by rfl) (he : starEach [a] X.env = (false, eval a X.env) :: starEach [] X.env := by rfl) : PE X (.Call (.Name "tuple" p) [a] [] pos) (tE ρ ρ1 (dat X.K (.tuple ds))) :=
  d_callTy call_tuple_of (cld_tuple (.inl rfl)) hg zt boot_ttuple (a_cons ha a_nil he) (by decide) (by decide) he
end
theorem atI_getD {xs : List PyData} {i : Int} (h0 : 0 ≤ i) (h : i < (xs.length : Int)) {d : PyData} : atI xs i = some (xs.getD i.toNat d) := by
  have e : i = ((i.toNat : Nat) : Int) := by omega
  rw [e]
  refine atI_nat ?_
  rw [Int.toNat_natCast, List.getD_eq_getElem?_getD, List.getElem?_eq_getElem (by omega)]
  rfl
theorem getD_map {α : Type} (f : α → PyData) {xs : List α} {i : Nat} (h : i < xs.length) (d : α) (e : PyData) : (xs.map f).getD i e = f (xs.getD i d) := by
  rw [List.getD_eq_getElem?_getD, List.getD_eq_getElem?_getD, List.getElem?_map, List.getElem?_eq_getElem h]
  rfl
section
variable {P : Program} {w : World} {K : PySem.W.Frag} {mg : Str → Option Value} {base : Heap}
abbrev sp_pick (K : PySem.W.Frag) : Sp := spW (ι := Rw × List PyData) K (fun i => RwOk i.1 ∧ 1 ≤ i.2.length ∧ i.2.length ≤ 1000) (fun i => [dat K (.list i.2)]) (fun i => i.1) (fun i => (pickR i.2 i.1).2) (fun i => dat K (pickR i.2 i.1).1)
theorem ok_pick (T : Txt K mg) : FnOk P w K mg base CX0 2 T.law_pick.a T.law_pick.d ["_law_row", "_law_some"] (sp_pick K) := by
  have nd := sc_law_pick.nd
  refine fn_row T.law_pick.F sc_law_pick (fun _ => rfl) (fun cdv A outer s H E i x0 hr hi => ?_)
  obtain ⟨r, ds⟩ := i
  obtain ⟨hr0, hm1, hm2⟩ := hi
  dsimp only at hr0 hm1 hm2
  obtain ⟨a1, a2, a3, a4⟩ := takeR_ok (m := ds.length) (by omega) hr0
  exact ⟨[.own (rowO K (some x0) (takeR ds.length r).2), .per (dat K (.list ds))], b_ret (s_ret (d_ix ix_list (opd_ixL (ds := ds) (d := (pickR ds r).1) (atI_getD a1 a2)) (d_var 1) (d_callW (o := some x0) T.law_taken (ok_taken T) (r, (ds.length : Int)) 0 ⟨hr0, by dsimp only; omega, by dsimp only; omega⟩ hr (a_cons (d_lenL (ds := ds) T.z_len (d_var 1)) a_nil)))), rfl⟩
/-! ### a kind -/
theorem reds_cut {k : Int} (h0 : 0 ≤ k) (h : k < 4) : ((reds.map PyData.str).drop (HT.sIx (reds.map PyData.str).length 0 none)).take (HT.sIx (reds.map PyData.str).length (reds.map PyData.str).length (some (1 + k)) - HT.sIx (reds.map PyData.str).length 0 none) = (reds.take (1 + k).toNat).map PyData.str := by
  have hk : k = 0 ∨ k = 1 ∨ k = 2 ∨ k = 3 := by omega
  rcases hk with rfl | rfl | rfl | rfl <;> rfl
abbrev sp_kind (K : PySem.W.Frag) : Sp := spW (ι := Rw) K RwOk (fun _ => []) (fun r => r) (fun r => (kindR r).2) (fun r => dat K (kdD (kindR r).1))
theorem ok_kind (T : Txt K mg) : FnOk P w K mg base CX0 2 T.law_kind.a T.law_kind.d ["_law_row"] (sp_kind K) := by
  have nd := sc_law_kind.nd
  refine fn_row T.law_kind.F sc_law_kind (fun _ => rfl) (fun cdv A outer s H E r x0 hr hr0 => ?_)
  obtain ⟨a1, a2, a3, a4⟩ := takeR_ok (m := 5) (by decide) hr0
  have way := fun {X : Cx} => @d_callW X
  by_cases h0 : (takeR 5 r).1 = 0
  · obtain ⟨b1, b2, b3, b4⟩ := takeR_ok (m := 30) (by decide) a3
    obtain ⟨c1, c2, c3, c4⟩ := takeR_ok (m := 200) (by decide) b3
    have e : kindR r = (.int ((takeR 30 (takeR 5 r).2).1 - 15) ((takeR 30 (takeR 5 r).2).1 - 15 + (takeR 200 (takeR 30 (takeR 5 r).2).2).1), (takeR 200 (takeR 30 (takeR 5 r).2).2).2) := if_pos h0
    rw [e]
    exact ⟨[.own (rowO K (some x0) (takeR 200 (takeR 30 (takeR 5 r).2).2).2), .per (dat K (.int (takeR 5 r).1)), .per (dat K (.int ((takeR 30 (takeR 5 r).2).1 - 15)))], b_cons (s_set 1 (d_callW (o := some x0) T.law_taken (ok_taken T) (r, 5) 0 ⟨hr0, by dsimp only; decide, by dsimp only; decide⟩ hr (a_cons d_int a_nil)))
      (b_ifr (k := true) (t_cmp op_eq (opd_eqI (decide_eq_true h0)) (d_var 1) d_int) (fun _ => b_cons (s_set 2 (d_bin op_sub opd_I0 (d_callW (o := some x0) T.law_taken (ok_taken T) ((takeR 5 r).2, 30) 0 ⟨a3, by dsimp only; decide, by dsimp only; decide⟩ hr (a_cons d_int a_nil)) d_int))
        (b_ret (s_ret (d_tup (ds := [_, _, _]) (a_cons d_str (a_cons (d_var 2) (a_cons (d_bin op_add opd_I0 (d_var 2) (d_callW (o := some x0) T.law_taken (ok_taken T) ((takeR 30 (takeR 5 r).2).2, 200) 0 ⟨b3, by dsimp only; decide, by dsimp only; decide⟩ hr (a_cons d_int a_nil))) a_nil))))))) (fun h => nomatch h)), rfl⟩
  · by_cases h1 : (takeR 5 r).1 = 1
    · obtain ⟨b1, b2, b3, b4⟩ := takeR_ok (m := 4) (by decide) a3
      have e : kindR r = (.ch (reds.take (1 + (takeR 4 (takeR 5 r).2).1).toNat), (takeR 4 (takeR 5 r).2).2) := by unfold kindR; rw [if_neg h0, if_pos h1]
      rw [e]
      exact ⟨[.own (rowO K (some x0) (takeR 4 (takeR 5 r).2).2), .per (dat K (.int (takeR 5 r).1)), .no], b_cons (s_set 1 (d_callW (o := some x0) T.law_taken (ok_taken T) (r, 5) 0 ⟨hr0, by dsimp only; decide, by dsimp only; decide⟩ hr (a_cons d_int a_nil)))
        (b_no (t_cmp op_eq (opd_eqI (decide_eq_false h0)) (d_var 1) d_int)
        (b_ifr (k := true) (t_cmp op_eq (opd_eqI (decide_eq_true h1)) (d_var 1) d_int) (fun _ => b_ret (s_ret (d_tup (ds := [.str "choice", .tuple ((reds.take (1 + (takeR 4 (takeR 5 r).2).1).toNat).map .str)]) (a_cons d_str (a_cons (d_slTo (ds := reds.map PyData.str) (d_tup (ds := [.str "red", .str "green", .str "grey", .str "blue"]) (a_cons d_str (a_cons d_str (a_cons d_str (a_cons d_str a_nil))))) (d_bin op_add opd_I0 d_int (d_callW (o := some x0) T.law_taken (ok_taken T) ((takeR 5 r).2, 4) 0 ⟨a3, by dsimp only; decide, by dsimp only; decide⟩ hr (a_cons d_int a_nil))) (reds_cut b1 b2)) a_nil))))) (fun h => nomatch h))), rfl⟩
    · refine ⟨[.own (rowO K (some x0) (takeR 5 r).2), .per (dat K (.int (takeR 5 r).1)), .no], b_cons (s_set 1 (d_callW (o := some x0) T.law_taken (ok_taken T) (r, 5) 0 ⟨hr0, by dsimp only; decide, by dsimp only; decide⟩ hr (a_cons d_int a_nil)))
        (b_no (t_cmp op_eq (opd_eqI (decide_eq_false h0)) (d_var 1) d_int)
        (b_no (t_cmp op_eq (opd_eqI (decide_eq_false h1)) (d_var 1) d_int)
        (b_ret (s_ret (d_if (k := decide ((takeR 5 r).1 = 2)) (t_cmp op_eq (opd_eqI rfl) (d_var 1) d_int) (fun h => d_eq (d_tup (ds := [_]) (a_cons d_str a_nil)) ?e1) (fun h => d_eq d_non ?e2)))))), ?e3⟩
      case e1 => unfold kindR; rw [if_neg h0, if_neg h1, if_pos (of_decide_eq_true h)]; rfl
      case e2 => unfold kindR; rw [if_neg h0, if_neg h1, if_neg (of_decide_eq_false h)]; rfl
      case e3 =>
        have e : (kindR r).2 = (takeR 5 r).2 := by
          unfold kindR
          rw [if_neg h0, if_neg h1]
          split <;> rfl
        rw [e]
        rfl
/-! ### names -/
abbrev sp_lnames (K : PySem.W.Frag) : Sp := spI (ι := Gm) (fun g => g.ops.length ≤ 5) (fun g => [dat K (gmD g)]) (fun g => dat K (.list (g.names.map .str)))
theorem ok_lnames (T : Txt K mg) : FnOk P w K mg base CX0 1 T.law_names.a T.law_names.d ["_law_grammar_here"] (sp_lnames K) := by
  have nd := sc_law_names.nd
  refine fn_pure T.law_names.F sc_law_names (fun _ => rfl) (fun cdv A outer s H E g hr hg => ?_)
  refine ⟨_, b_ret (s_ret (d_eq (d_lcT (lc_one g.ops (fun o => dat K (opD o)) (fun o => .str o.name) 1 (i_tupT (d_ix ix_tup (opd_ixT (ds := [.tuple (g.ops.map opD), _, _]) rfl) (d_var 0) d_int)) (blkOk_by (N := ["_law_grammar_here", "_law_option"]) (sc := defScope s_law_names) (by decide +kernel)) (fun _ _ _ _ _ => pg_name (i := 1) nd rfl (.inl rfl)) rfl (by omega)
      (fun o ho _ _ _ _ _ => d_ix ix_tup (opd_ixT (ds := [.str o.name, .str o.sh, kdD o.kd]) rfl) (d_var 1) d_int))) ?h)), .inl ⟨_, rfl⟩⟩
  case h =>
    rw [filter_tt]
    show _ = PyData.list ((g.ops.map (·.name)).map .str)
    rw [List.map_map]
    rfl
end
end Fc
/-! FcLd: _law_clauses, _law_grammar, _law_given. -/
namespace Fc
open PySem PySem.W PySem.Spec PyProof.Rows L2
theorem rng_get {K : PySem.W.Frag} {n i : Nat} {r : Rp} (h : (rangeR K 0 n)[i]? = some r) : i < n ∧ r = dat K (.int (i : Int)) := by
  unfold rangeR at h
  rw [List.getElem?_map] at h
  by_cases hi : i < n
  · rw [List.getElem?_range hi] at h
    injection h with h
    refine ⟨hi, ?_⟩
    rw [← h]
    show dat K (.int (0 + (i : Int))) = _
    rw [Int.zero_add]
  · rw [List.getElem?_eq_none (by rw [List.length_range]; omega)] at h
    cases h
theorem rangeR_len {K : PySem.W.Frag} {n : Nat} : (rangeR K 0 n).length = n := by unfold rangeR; rw [List.length_map, List.length_range]
theorem op_at {ops : List Op} {i : Int} (h0 : 0 ≤ i) (h : i < (ops.length : Int)) : ∃ o, ops[i.toNat]? = some o ∧ nameAt ops i = o.name ∧ atI (ops.map opD) i = some (opD o) := by
  have hi : i.toNat < ops.length := by omega
  refine ⟨ops[i.toNat], List.getElem?_eq_getElem hi, ?_, ?_⟩
  · unfold nameAt
    rw [List.getD_eq_getElem?_getD, List.getElem?_map, List.getElem?_eq_getElem hi]
    rfl
  · have e : i = ((i.toNat : Nat) : Int) := by omega
    have := atI_nat (xs := ops.map opD) (i := i.toNat) (x := opD ops[i.toNat]) (by rw [List.getElem?_map, List.getElem?_eq_getElem hi]; rfl)
    rwa [← e] at this
section
variable {P : Program} {w : World} {K : PySem.W.Frag} {mg : Str → Option Value} {base : Heap}
abbrev sp_lclauses (K : PySem.W.Frag) : Sp := spW (ι := Rw × List Op) K (fun i => RwOk i.1 ∧ 1 ≤ i.2.length ∧ i.2.length ≤ 5) (fun i => [dat K (.list (i.2.map opD)), dat K (.int 7)]) (fun i => i.1) (fun i => (clausesR i.2 7 i.1).2) (fun i => dat K (.tuple ((clausesR i.2 7 i.1).1.map clD)))
theorem ok_lclauses (T : Txt K mg) : FnOk P w K mg base CX0 2 T.law_clauses.a T.law_clauses.d ["_law_row", "_law_options", "_law_most"] (sp_lclauses K) := by
  have nd := sc_law_clauses.nd
  refine fn_row T.law_clauses.F sc_law_clauses (fun _ => rfl) (fun cdv A outer s H E i x0 hr hi => ?_)
  obtain ⟨r, ops⟩ := i
  obtain ⟨hr0, hm1, hm2⟩ := hi
  dsimp only at hr0 hm1 hm2
  obtain ⟨a1, a2, a3, a4⟩ := takeR_ok (m := 7 + 1) (by decide) hr0
  let st : Rw → List Cl → Rho := fun r cs => [.own (rowO K (some x0) r), .per (dat K (.list (ops.map opD))), .per (dat K (.int 7)), .own (lstO K (cs.map clD)), .no, .no, .no, .no]
  let it := iterR (fun _ => clauseR ops)
  let r1 := (takeR (7 + 1) r).2
  let n := (takeR (7 + 1) r).1.toNat
  have hok : ∀ i, RwOk (it i r1).2 := fun i => (iterR_all (Q := fun _ => True) (fun _ r hr => ⟨(clauseR_ok hm1 hr).1, trivial⟩) i r1 a3).1
  refine ⟨(st (it n r1).2 (it n r1).1).set 3 (.per (dat K (.list ((it n r1).1.map clD)))), b_cons (s_new 3 (n_lst (ds := []) a_nil))
    (b_cons (s_for (vs := [4]) (i_range (n := (takeR (7 + 1) r).1) T.z_range (a_cons (d_callW (o := some x0) T.law_taken (ok_taken T) (r, 7 + 1) 0 ⟨hr0, by dsimp only; decide, by dsimp only; decide⟩ hr (a_cons (d_bin op_add opd_I0 (d_var 2) d_int) a_nil)) a_nil) (by omega)) (pg_name (i := 4) nd rfl (.inl rfl)) (fun i => st (it i r1).2 (it i r1).1) (fun i => (st (it i r1).2 (it i r1).1).set 4 (.per (dat K (.int (i : Int))))) (Sub.refl _) ?ht ?body)
    (b_rep (r := dat K (.tuple ((it n r1).1.map clD))) ?ret (fun v B h => h))), ?row⟩
  case row => rfl
  case ht =>
    intro i rr h
    obtain ⟨hi, rfl⟩ := rng_get h
    exact tg_name (by decide)
  case ret =>
    rw [rangeR_len]
    exact b_ret (s_ret (e_share 3 sh_lst (d_tupOf T.z_tuple (d_var 3))))
  case body =>
    intro i rr h
    obtain ⟨hi, rfl⟩ := rng_get h
    obtain ⟨b1, b2, b3, b4⟩ := takeR_ok (m := 4) (by decide) (hok i)
    obtain ⟨c1, c2, c3, c4⟩ := takeR_ok (m := ops.length) (by omega) b3
    obtain ⟨d1, d2, d3, d4⟩ := takeR_ok (m := ops.length) (by omega) c3
    obtain ⟨o1, _, e1, f1⟩ := op_at c1 c2
    obtain ⟨o2, _, e2, f2⟩ := op_at d1 d2
    have hw : atI (words4.map PyData.str) (takeR 4 (it i r1).2).1 = some (.str (words4.getD (takeR 4 (it i r1).2).1.toNat "")) := by
      have := atI_getD (xs := words4.map PyData.str) (d := .none) b1 b2
      rwa [getD_map PyData.str (xs := words4) (by show _ < 4; omega) "" .none] at this
    have hcl : (clauseR ops (it i r1).2).1 = ⟨words4.getD (takeR 4 (it i r1).2).1.toNat "", o1.name, o2.name⟩ := by unfold clauseR; rw [e1, e2]
    have hn : n ≤ 7 := by show (takeR (7 + 1) r).1.toNat ≤ 7; omega
    have hz : ((it i r1).1.map clD).length < 1000000 := by rw [List.length_map, iterR_len]; omega
    refine ⟨_, b_cons (s_set 5 (d_ix ix_list (opd_ixL (ds := words4.map PyData.str) hw) (d_lst (ds := [.str "needs", .str "needs", .str "excludes", .str "either"]) (a_cons d_str (a_cons d_str (a_cons d_str (a_cons d_str a_nil))))) (d_callW (o := some x0) T.law_taken (ok_taken T) ((it i r1).2, 4) 0 ⟨hok i, by dsimp only; decide, by dsimp only; decide⟩ hr (a_cons d_int a_nil))))
      (b_cons (s_par (ra := dat K (.str o1.name)) (rb := dat K (.str o2.name)) 6 7 (a_cons (d_ix ix_tup (opd_ixT (ds := [.str o1.name, .str o1.sh, kdD o1.kd]) rfl) (d_ix ix_list (opd_ixL (ds := ops.map opD) f1) (d_var 1) (d_callW (o := some x0) T.law_taken (ok_taken T) ((takeR 4 (it i r1).2).2, (ops.length : Int)) 0 ⟨b3, by dsimp only; omega, by dsimp only; omega⟩ hr (a_cons (d_eq (d_lenL (ds := ops.map opD) T.z_len (d_var 1)) (by rw [List.length_map])) a_nil))) d_int)
          (a_cons (d_ix ix_tup (opd_ixT (ds := [.str o2.name, .str o2.sh, kdD o2.kd]) rfl) (d_ix ix_list (opd_ixL (ds := ops.map opD) f2) (d_var 1) (d_callW (o := some x0) T.law_taken (ok_taken T) ((takeR ops.length (takeR 4 (it i r1).2).2).2, (ops.length : Int)) 0 ⟨c3, by dsimp only; omega, by dsimp only; omega⟩ hr (a_cons (d_eq (d_lenL (ds := ops.map opD) T.z_len (d_var 1)) (by rw [List.length_map])) a_nil))) d_int) a_nil)))
      (b_one (s_expr (d_app 3 (d_tup (ds := [_, _, _]) (a_cons (d_var 5) (a_cons (d_var 6) (a_cons (d_var 7) a_nil)))) hz)))), ?sub⟩
    case sub =>
      have e3 : (it (i + 1) r1).1.map clD = (it i r1).1.map clD ++ [.tuple [.str (words4.getD (takeR 4 (it i r1).2).1.toNat ""), .str o1.name, .str o2.name]] := by
        show ((it i r1).1 ++ [(clauseR ops (it i r1).2).1]).map clD = _
        rw [List.map_append, hcl]
        rfl
      show Sub _ [.own (rowO K (some x0) (it (i + 1) r1).2), .per (dat K (.list (ops.map opD))), .per (dat K (.int 7)), .own (lstO K ((it (i + 1) r1).1.map clD)), .no, .no, .no, .no]
      rw [e3]
      exact Sub.cons (Sub.cons (Sub.cons (Sub.cons (Sub.drop (Sub.drop (Sub.drop (Sub.drop Sub.nil)))))))
theorem let_at {k : Nat} (h : k < 6) : ∃ c, atI lets6.cps.toList (k : Int) = some c ∧ letAt k = ⟨#[c]⟩ := by
  have hl : lets6.cps.toList.length = 6 := by decide +kernel
  refine ⟨lets6.cps.toList[k]'(by omega), atI_nat (List.getElem?_eq_getElem _), ?_⟩
  unfold letAt
  rw [List.getElem?_eq_getElem (by omega)]
abbrev sp_lgrammar (K : PySem.W.Frag) : Sp := spW (ι := Rw) K RwOk (fun _ => [dat K (.int 5)]) (fun r => r) (fun r => (gramR r).2) (fun r => dat K (gmD (gramR r).1))
theorem ok_lgrammar (T : Txt K mg) : FnOk P w K mg base CX0 3 T.law_grammar.a T.law_grammar.d ["_law_row", "_law_most"] (sp_lgrammar K) := by
  have nd := sc_law_grammar.nd
  refine fn_row T.law_grammar.F sc_law_grammar (fun _ => rfl) (fun cdv A outer s H E r x0 hr hr0 => ?_)
  obtain ⟨a1, a2, a3, a4⟩ := takeR_ok (m := 5) (by decide) hr0
  let st : Rw → List Op → Rho := fun r os => [.own (rowO K (some x0) r), .per (dat K (.int 5)), .per (dat K (.list (names6.map .str))), .per (dat K (.str lets6)), .own (lstO K (os.map opD)), .no, .no]
  let it := iterR opR
  let r1 := (takeR 5 r).2
  let n := (1 + (takeR 5 r).1).toNat
  have hn : n ≤ 5 := by show (1 + (takeR 5 r).1).toNat ≤ 5; omega
  have hok : ∀ i, i ≤ 5 → RwOk (it i r1).2 := by
    intro i
    induction i with
    | zero => intro _; exact a3
    | succ i ih => intro hi; exact (opR_ok (k := i) (by omega) (ih (by omega))).1
  obtain ⟨o1, o2⟩ := opsR_ok hr0
  obtain ⟨b1, b2, b3, b4⟩ := takeR_ok (m := 2) (by decide) o1
  obtain ⟨c1, c2, c3, c4⟩ := takeR_ok (m := 3) (by decide) b3
  let os := (opsR r).1
  let ra := takeR 2 (opsR r).2
  let rb := takeR 3 ra.2
  let rc := clausesR os 7 rb.2
  let fin : Rho := [.own (rowO K (some x0) rc.2), .per (dat K (.int 5)), .per (dat K (.list (names6.map .str))), .per (dat K (.str lets6)), .per (dat K (.list (os.map opD))), .no, .per (dat K (.int ra.1))]
  refine ⟨fin, b_cons (s_par3 2 3 4 (d_lst (ds := names6.map .str) (a_cons d_str (a_cons d_str (a_cons d_str (a_cons d_str (a_cons d_str (a_cons d_str a_nil))))))) (d_str (x := lets6)) (n_lst (ds := []) a_nil))
    (b_cons (s_for (vs := [5]) (i_range (n := 1 + (takeR 5 r).1) T.z_range (a_cons (d_bin op_add opd_I0 d_int (d_callW (o := some x0) T.law_taken (ok_taken T) (r, 5) 0 ⟨hr0, by dsimp only; decide, by dsimp only; decide⟩ hr (a_cons (d_var 1) a_nil))) a_nil) (by omega)) (pg_name (i := 5) nd rfl (.inl rfl)) (fun i => st (it i r1).2 (it i r1).1) (fun i => (st (it i r1).2 (it i r1).1).set 5 (.per (dat K (.int (i : Int))))) (Sub.refl _) ?ht ?body)
    (b_pre (ρ1 := st (opsR r).2 os) (b_cons (s_set 6 (d_callW (o := some x0) T.law_taken (ok_taken T) ((opsR r).2, 2) 0 ⟨o1, by dsimp only; decide, by dsimp only; decide⟩ hr (a_cons d_int a_nil)))
    (b_share 4 sh_lst (b_ret (s_ret (d_tup (ds := [.tuple (os.map opD), .tuple [.int ra.1, .int (ra.1 + rb.1)], .tuple (rc.1.map clD)]) (a_cons (d_tupOf T.z_tuple (d_var 4)) (a_cons (d_tup (ds := [_, _]) (a_cons (d_var 6) (a_cons (d_bin op_add opd_I0 (d_var 6) (d_callW (o := some x0) T.law_taken (ok_taken T) (ra.2, 3) 0 ⟨b3, by dsimp only; decide, by dsimp only; decide⟩ hr (a_cons d_int a_nil))) a_nil)))
      (a_cons (d_callW (o := some x0) T.law_clauses (ok_lclauses T) (rb.2, os) 0 ⟨c3, o2.len⟩ hr (a_cons (d_var 4) (a_cons d_int a_nil))) a_nil))))))) ) ?sub0)), rfl⟩
  case sub0 =>
    rw [rangeR_len]
    exact Sub.refl _
  case ht =>
    intro i rr h
    obtain ⟨hi, rfl⟩ := rng_get h
    exact tg_name (by decide)
  case body =>
    intro i rr h
    obtain ⟨hi, rfl⟩ := rng_get h
    have hi5 : i < 5 := Nat.lt_of_lt_of_le hi hn
    obtain ⟨d1, d2, d3, d4⟩ := takeR_ok (m := 3) (by decide) (hok i (by omega))
    have hz : ((it i r1).1.map opD).length < 1000000 := by rw [List.length_map, iterR_len]; omega
    have hnm : atI (names6.map PyData.str) (i : Int) = some (.str (names6.getD i "")) := by
      refine atI_nat ?_
      rw [List.getElem?_map, List.getD_eq_getElem?_getD, List.getElem?_eq_getElem (show i < names6.length from Nat.lt_of_lt_of_le hi5 (by decide))]
      rfl
    obtain ⟨c, hc1, hc2⟩ := let_at (k := i) (by omega)
    refine ⟨_, b_one (s_expr (d_app 4 (d := opD (opR i (it i r1).2).1) (d_tup (ds := [.str (names6.getD i ""), .str (if (takeR 3 (it i r1).2).1 > 0 then letAt i else ""), kdD (kindR (takeR 3 (it i r1).2).2).1]) (a_cons (d_ix ix_list (opd_ixL (ds := names6.map PyData.str) hnm) (d_var 2) (d_var 5))
      (a_cons (d_if (k := decide ((takeR 3 (it i r1).2).1 > 0)) (t_cmp op_gt' (opd_B0 rfl) (d_callW (o := some x0) T.law_taken (ok_taken T) ((it i r1).2, 3) 0 ⟨hok i (by omega), by dsimp only; decide, by dsimp only; decide⟩ hr (a_cons d_int a_nil)) d_int)
        (fun h => d_eq (d_ix ix_str (opd_ixS (z := lets6) (c := c) (by rw [sizeLine_eq]; decide +kernel) hc1) (d_var 3) (d_var 5)) ?y1) (fun h => d_eq d_str ?y2))
      (a_cons (d_callW (o := some x0) T.law_kind (ok_kind T) (takeR 3 (it i r1).2).2 0 d3 hr a_nil) a_nil)))) hz)), ?sub⟩
    case y1 => rw [if_pos (of_decide_eq_true h), hc2]
    case y2 => rw [if_neg (of_decide_eq_false h)]
    case sub =>
      have e3 : (it (i + 1) r1).1.map opD = (it i r1).1.map opD ++ [opD (opR i (it i r1).2).1] := by
        show ((it i r1).1 ++ [(opR i (it i r1).2).1]).map opD = _
        rw [List.map_append]
        rfl
      show Sub _ [.own (rowO K (some x0) (it (i + 1) r1).2), .per (dat K (.int 5)), .per (dat K (.list (names6.map .str))), .per (dat K (.str lets6)), .own (lstO K ((it (i + 1) r1).1.map opD)), .no, .no]
      rw [e3]
      exact Sub.cons (Sub.cons (Sub.cons (Sub.cons (Sub.cons (Sub.drop (Sub.cons Sub.nil))))))
abbrev sp_lgiven (K : PySem.W.Frag) : Sp := spW (ι := Rw × Gm) K (fun i => RwOk i.1 ∧ GmOk i.2) (fun i => [dat K (gmD i.2)]) (fun i => i.1) (fun i => (givenR i.2 i.1).2) (fun i => dat K (.list ((givenR i.2 i.1).1.map .str)))
theorem ok_lgiven (T : Txt K mg) : FnOk P w K mg base CX0 3 T.law_given.a T.law_given.d ["_law_row", "_law_grammar_here"] (sp_lgiven K) := by
  have nd := sc_law_given.nd
  refine fn_row T.law_given.F sc_law_given (fun _ => rfl) (fun cdv A outer s H E i x0 hr hi => ?_)
  obtain ⟨r, g⟩ := i
  obtain ⟨hr0, hg⟩ := hi
  dsimp only at hr0 hg
  obtain ⟨a1, a2, a3, a4⟩ := takeR_ok (m := 4) (by decide) hr0
  have hl : g.names.length = g.ops.length := List.length_map _
  have hlen := hg.len
  let f : Nat → Rw → Str × Rw := fun _ r => (g.names.getD (takeR g.names.length r).1.toNat "", (takeR g.names.length r).2)
  let r1 := (takeR 4 r).2
  let n := (takeR 4 r).1.toNat
  have hn : n ≤ 3 := by show (takeR 4 r).1.toNat ≤ 3; omega
  let st : Rw → Rho := fun r => [.own (rowO K (some x0) r), .per (dat K (gmD g)), .no]
  have hok : ∀ i, RwOk (iterR f i r1).2 := fun i => (iterR_all (f := f) (Q := fun _ => True) (fun _ r hr => ⟨(takeR_ok (m := g.names.length) (by omega) hr).2.2.1, trivial⟩) i r1 a3).1
  have key : ∀ i, i ≤ n → accD (fun _ => true) (fun i => .str (f i (iterR f i r1).2).1) i = (iterR f i r1).1.map PyData.str := by
    intro i
    induction i with
    | zero => intro _; rfl
    | succ i ih =>
      intro hi
      show accD _ _ i ++ [_] = ((iterR f i r1).1 ++ [_]).map PyData.str
      rw [ih (by omega), List.map_append]
      rfl
  refine ⟨st (iterR f n r1).2, b_ret (s_ret (d_lc (ρs := fun i => st (iterR f i r1).2) (ρb := fun i => (st (iterR f i r1).2).set 2 (.per (dat K (.int (i : Int))))) (keep := fun _ => true) (el := fun i => .str (f i (iterR f i r1).2).1) (ρ0 := st r1) (items := rangeR K 0 n) (g := gName 2) (own := [("_law_k", 2)]) ?L (by rw [rangeR_len]; exact key n (Nat.le_refl _)) (by rw [rangeR_len]))), rfl⟩
  case L =>
    refine ⟨i_range (n := (takeR 4 r).1) T.z_range (a_cons (d_callW (o := some x0) T.law_taken (ok_taken T) (r, 4) 0 ⟨hr0, by dsimp only; decide, by dsimp only; decide⟩ hr (a_cons d_int a_nil)) a_nil) (by omega), blkOk_by (N := ["_law_row", "_law_grammar_here", "_law_k"]) (sc := defScope s_law_given) (by decide +kernel), (fun _ _ _ _ _ => pg_name (i := 2) nd rfl (.inl rfl)), Sub.refl _, fun i => noAt1 rfl, ?tg, ?test, ?elem, ?skip, ?few⟩
    case tg =>
      intro i rr h
      obtain ⟨hi, rfl⟩ := rng_get h
      exact tg_name (by simp)
    case test => intro i hi _ _ _ _ _; exact ts_nil
    case elem =>
      intro i hi _
      rw [rangeR_len] at hi
      obtain ⟨d1, d2, d3, d4⟩ := takeR_ok (m := (g.names.map PyData.str).length) (by rw [List.length_map]; omega) (hok i)
      have e2 : takeR ((g.names.map PyData.str).length : Int) (iterR f i r1).2 = takeR (g.names.length : Int) (iterR f i r1).2 := by rw [List.length_map]
      refine ⟨(st (iterR f (i + 1) r1).2).set 2 (.per (dat K (.int (i : Int)))), Sub.unset rfl, fun _ _ _ _ _ => ?_⟩
      refine d_eq (d := (pickR (g.names.map PyData.str) (iterR f i r1).2).1) (d_less (d_callW (o := some x0) T.law_pick (ok_pick T) ((iterR f i r1).2, g.names.map PyData.str) 0 ⟨hok i, by dsimp only; rw [List.length_map]; omega, by dsimp only; rw [List.length_map]; omega⟩ hr (a_cons (d_callT T.law_names (ok_lnames T) g hlen.2 hr (a_cons (d_var 1) a_nil)) a_nil)) ?s1) ?e1
      case s1 =>
        have e3 : (pickR (g.names.map PyData.str) (iterR f i r1).2).2 = (iterR f (i + 1) r1).2 := by
          show (takeR ((g.names.map PyData.str).length : Int) (iterR f i r1).2).2 = (takeR (g.names.length : Int) (iterR f i r1).2).2
          rw [e2]
        show Sub [.own (rowO K (some x0) (pickR (g.names.map PyData.str) (iterR f i r1).2).2), _, _] [.own (rowO K (some x0) (iterR f (i + 1) r1).2), _, _]
        rw [e3]
        exact Sub.refl _
      case e1 =>
        show (g.names.map PyData.str).getD (takeR ((g.names.map PyData.str).length : Int) (iterR f i r1).2).1.toNat .none = .str (g.names.getD (takeR (g.names.length : Int) (iterR f i r1).2).1.toNat "")
        rw [e2]
        rw [List.length_map] at d2 d1
        exact getD_map PyData.str (by omega) "" .none
    case skip => intro i hi h; cases h
    case few => rw [rangeR_len]; omega
end
end Fc
/-! FcPa: the plain law: the least chains, by building all. -/
namespace Fc
open PySem PySem.W PySem.Spec PyProof.Rows L2
/-! ### the order of chains -/
theorem listLt_cons {a b : Lt} {x y : List Lt} : DatumOrd.lt (a :: x) (b :: y) = if a = b then DatumOrd.lt x y else DatumOrd.lt a b := rfl
theorem leT_cons {a : Lt} {x y : List Lt} (h : leT x y = true) : leT (a :: x) (a :: y) = true := by
  unfold leT at h ⊢
  rw [listLt_cons, if_pos rfl]
  exact h
theorem leT_head {a b : Lt} {x y : List Lt} (h : DatumOrd.lt a b = true) : leT (a :: x) (b :: y) = true := by
  unfold leT
  have hn : b ≠ a := fun z => by rw [z, tlt_self] at h; cases h
  rw [listLt_cons, if_neg hn, tlt_asymm h]
  rfl
theorem leT_snoc {l : Lt} : ∀ {x y : List Lt}, x.length = y.length → leT x y = true → leT (x ++ [l]) (y ++ [l]) = true
  | [], [], _, _ => leT_refl _
  | a :: x, b :: y, hl, h => by
    have hl' : x.length = y.length := by simpa using hl
    unfold leT at h
    rw [listLt_cons] at h
    by_cases e : b = a
    · subst e
      rw [if_pos rfl] at h
      exact leT_cons (leT_snoc (x := x) (y := y) hl' h)
    · rw [if_neg e] at h
      have h' : leT a b = true := h
      exact leT_head (lt_of_leT_ne h' fun z => e z.symm)
theorem snoc_inj {α : Type} {x y : List α} {a b : α} (h : x ++ [a] = y ++ [b]) : x = y ∧ a = b := by
  have := List.append_inj' h rfl
  exact ⟨this.1, by simpa using this.2⟩
/-! ### walks -/
def Wk (g : Gm) : Nat → Lt → Lt → List Lt → Prop
  | 0, a, b, c => a = b ∧ c = [a]
  | n + 1, a, b, c => ∃ x c', x ∈ succ g a ∧ Wk g n x b c' ∧ c = a :: c'
theorem Wk.pn {g : Gm} : ∀ {n : Nat} {a b : Lt} {c : List Lt}, Wk g n a b c → Pn g n a b
  | 0, _, _, _, h => h.1
  | n + 1, _, _, _, ⟨x, c', h1, h2, _⟩ => ⟨x, h1, h2.pn⟩
theorem Wk.len {g : Gm} : ∀ {n : Nat} {a b : Lt} {c : List Lt}, Wk g n a b c → c.length = n + 1
  | 0, _, _, _, h => by rw [h.2]; rfl
  | n + 1, _, _, _, ⟨x, c', h1, h2, e⟩ => by rw [e, List.length_cons, h2.len]
theorem Wk.last {g : Gm} : ∀ {n : Nat} {a b : Lt} {c : List Lt}, Wk g n a b c → c[n]? = some b
  | 0, _, _, _, h => by rw [h.2, h.1]; rfl
  | n + 1, _, _, _, ⟨x, c', h1, h2, e⟩ => by rw [e, List.getElem?_cons_succ]; exact h2.last
theorem Wk.first {g : Gm} : ∀ {n : Nat} {a b : Lt} {c : List Lt}, Wk g n a b c → c[0]? = some a
  | 0, _, _, _, h => by rw [h.2]; rfl
  | n + 1, _, _, _, ⟨x, c', h1, h2, e⟩ => by rw [e]; rfl
theorem Wk.snoc {g : Gm} : ∀ {n : Nat} {a b l : Lt} {c : List Lt}, Wk g n a b c → l ∈ succ g b → Wk g (n + 1) a l (c ++ [l])
  | 0, a, b, l, c, ⟨h1, h2⟩, hl => by
    subst h1 h2
    exact ⟨l, [l], hl, ⟨rfl, rfl⟩, rfl⟩
  | n + 1, a, b, l, c, ⟨x, c', h1, h2, e⟩, hl => by
    subst e
    exact ⟨x, c' ++ [l], h1, h2.snoc hl, rfl⟩
theorem Wk.unsnoc {g : Gm} : ∀ {n : Nat} {a l : Lt} {c : List Lt}, Wk g (n + 1) a l c → ∃ b c0, Wk g n a b c0 ∧ l ∈ succ g b ∧ c = c0 ++ [l]
  | 0, a, l, c, ⟨x, c', h1, ⟨h2, h3⟩, e⟩ => by
    subst h2 h3 e
    exact ⟨a, [a], ⟨rfl, rfl⟩, h1, rfl⟩
  | n + 1, a, l, c, ⟨x, c', h1, h2, e⟩ => by
    subst e
    obtain ⟨b, c0, k1, k2, k3⟩ := h2.unsnoc
    subst k3
    exact ⟨b, a :: c0, ⟨x, c0, h1, k1, rfl⟩, k2, rfl⟩
/-- each step of a walk -/
theorem Wk.step {g : Gm} : ∀ {n : Nat} {a b : Lt} {c : List Lt}, Wk g n a b c → ∀ (i : Nat) x y, c[i]? = some x → c[i + 1]? = some y → y ∈ succ g x
  | 0, _, _, _, h, i, x, y, h1, h2 => by rw [h.2] at h2; simp at h2
  | n + 1, a, b, c, ⟨z, c', k1, k2, e⟩, 0, x, y, h1, h2 => by
    subst e
    have e1 : a = x := by simpa using h1
    have e2 := k2.first
    rw [List.getElem?_cons_succ, e2] at h2
    cases h2
    rw [← e1]; exact k1
  | n + 1, a, b, c, ⟨z, c', k1, k2, e⟩, i + 1, x, y, h1, h2 => by
    subst e
    rw [List.getElem?_cons_succ] at h1 h2
    exact k2.step i x y h1 h2
theorem chD_wk {g : Gm} {b : Lt} : ∀ {n : Nat} {a : Lt}, Dst g n a b → Wk g n a b (chD g b n a)
  | 0, a, h => ⟨h.1, rfl⟩
  | n + 1, a, h => by
    obtain ⟨c, h1, h2, h3⟩ := nxt_some h
    refine ⟨c, chD g b n c, h2, chD_wk h3, ?_⟩
    rw [chD, h1]
theorem find_first {α : Type} [DecidableEq α] [DatumOrd α] {p : α → Bool} : ∀ {xs : List α} {a x : α}, xs.Pairwise (fun a b => leT a b = true) → xs.find? p = some a → x ∈ xs → p x = true → leT a x = true
  | [], _, _, _, h, _, _ => nomatch h
  | y :: xs, a, x, hs, h, hx, hp => by
    rw [List.find?_cons] at h
    split at h
    · injection h with h
      subst h
      rcases List.mem_cons.mp hx with rfl | hx
      · exact leT_refl _
      · exact (List.pairwise_cons.mp hs).1 x hx
    · rename_i hy
      rcases List.mem_cons.mp hx with rfl | hx
      · rw [hp] at hy; cases hy
      · exact find_first (List.pairwise_cons.mp hs).2 h hx hp
theorem Dst.of_step {g : Gm} {n : Nat} {a x b : Lt} (h : Dst g (n + 1) a b) (hx : x ∈ succ g a) (k : Pn g n x b) : Dst g n x b := ⟨k, fun i hi z => h.2 (i + 1) (by omega) ⟨x, hx, z⟩⟩
theorem chD_min {g : Gm} {b : Lt} : ∀ {n : Nat} {a : Lt} {c : List Lt}, Dst g n a b → Wk g n a b c → leT (chD g b n a) c = true
  | 0, a, c, h, k => by rw [k.2]; exact leT_refl _
  | n + 1, a, c, h, ⟨x, c', k1, k2, e⟩ => by
    obtain ⟨y, h1, h2, h3⟩ := nxt_some h
    have hx := h.of_step k1 k2.pn
    have hle : leT y x = true := by
      classical
      exact find_first (sortT_sorted _) (show (sortT (dd (tgts g a))).find? _ = some y from h1) k1 (decide_eq_true hx)
    rw [chD, h1, e]
    show leT (a :: chD g b n y) (a :: c') = true
    refine leT_cons ?_
    by_cases e2 : y = x
    · subst e2
      exact chD_min h3 k2
    · have lt := lt_of_leT_ne hle e2
      have f1 := (chD_wk h3).first
      have f2 := k2.first
      cases ec : chD g b n y with
      | nil => rw [ec] at f1; cases f1
      | cons u us =>
        cases ec' : c' with
        | nil => rw [ec'] at f2; cases f2
        | cons v vs =>
          rw [ec] at f1
          rw [ec'] at f2
          cases f1
          cases f2
          exact leT_head lt
theorem Wk.uniq {g : Gm} {n : Nat} {a b : Lt} {c : List Lt} (h : Dst g n a b) (k : Wk g n a b c) (hm : ∀ c', Wk g n a b c' → leT c c' = true) : c = chD g b n a := leT_anti (hm _ (chD_wk h)) (chD_min h k)
/-! ### building all -/
abbrev CSt := List (Lt × List Lt) × List (List Lt)
def lastL (c : List Lt) : Lt := c.getLast?.getD ("", false)
def insC (s : CSt) (c : List Lt) : CSt := if lastL c ∈ s.1.map (·.1) then s else (s.1 ++ [(lastL c, c)], s.2 ++ [c])
/-- the chains longer by one -/
def longer (g : Gm) (L : List (List Lt)) : List (List Lt) := (sortT L).flatMap fun c => (succ g (lastL c)).map fun l => c ++ [l]
def turnC (g : Gm) (s : CSt) : CSt := (longer g s.2).foldl insC (s.1, [])
def chainsF (g : Gm) (a : Lt) : List (Lt × List Lt) := (itr (turnC g) (2 * g.ops.length) ([(a, [a])], [[a]])).1
theorem lastL_snoc (c : List Lt) (l : Lt) : lastL (c ++ [l]) = l := by unfold lastL; rw [List.getLast?_append]; rfl
theorem Wk.lastL {g : Gm} {n : Nat} {a b : Lt} {c : List Lt} (h : Wk g n a b c) : lastL c = b := by
  unfold Fc.lastL
  rw [List.getLast?_eq_getElem?, h.len, Nat.add_sub_cancel, h.last]
  rfl
structure CInv (g : Gm) (a : Lt) (n : Nat) (s : CSt) : Prop where
  nd : (s.1.map (·.1)).Nodup
  val : ∀ p ∈ s.1, ∃ k, k ≤ n ∧ Dst g k a p.1 ∧ p.2 = chD g p.1 k a
  all : ∀ k w, w ≤ n → Pn g w a k → k ∈ s.1.map (·.1)
  lev : ∀ c, c ∈ s.2 ↔ ∃ l, Dst g n a l ∧ c = chD g l n a
/-- what a turn adds: of each end that is new the first chain -/
theorem foldC_spec : ∀ (xs : List (List Lt)) (D : List (Lt × List Lt)) (F : List (List Lt)), ∃ E : List (List Lt), xs.foldl insC (D, F) = (D ++ E.map (fun c => (lastL c, c)), F ++ E) ∧ (E.map lastL).Nodup ∧
    (∀ c ∈ E, lastL c ∉ D.map (·.1) ∧ ∃ l1 l2, xs = l1 ++ c :: l2 ∧ ∀ c' ∈ l1, lastL c' ≠ lastL c) ∧ ∀ c ∈ xs, lastL c ∈ D.map (·.1) ∨ lastL c ∈ E.map lastL
  | [], D, F => ⟨[], by simp, by simp, fun k h => (nomatch h), fun k h => (nomatch h)⟩
  | x :: xs, D, F => by
    rw [List.foldl_cons]
    by_cases h : lastL x ∈ D.map (·.1)
    · have e : insC (D, F) x = (D, F) := if_pos h
      rw [e]
      obtain ⟨E, h1, h2, h3, h4⟩ := foldC_spec xs D F
      refine ⟨E, h1, h2, fun c hc => ?_, fun c hc => ?_⟩
      · obtain ⟨k1, l1, l2, k2, k3⟩ := h3 c hc
        refine ⟨k1, x :: l1, l2, by rw [k2]; rfl, fun c' hc' => ?_⟩
        rcases List.mem_cons.mp hc' with rfl | hc'
        · exact fun z => k1 (by rw [← z]; exact h)
        · exact k3 c' hc'
      · rcases List.mem_cons.mp hc with rfl | hc
        · exact .inl h
        · exact h4 c hc
    · have e : insC (D, F) x = (D ++ [(lastL x, x)], F ++ [x]) := if_neg h
      rw [e]
      obtain ⟨E, h1, h2, h3, h4⟩ := foldC_spec xs (D ++ [(lastL x, x)]) (F ++ [x])
      have nx : ∀ c ∈ E, lastL c ∉ D.map (·.1) ∧ lastL c ≠ lastL x := fun c hc => by
        have := (h3 c hc).1
        rw [List.map_append, List.mem_append] at this
        exact ⟨fun z => this (.inl z), fun z => this (.inr (by simp [z]))⟩
      refine ⟨x :: E, by rw [h1]; simp, ?_, fun c hc => ?_, fun c hc => ?_⟩
      · rw [List.map_cons]
        refine List.nodup_cons.mpr ⟨fun z => ?_, h2⟩
        obtain ⟨c, hc, e⟩ := List.mem_map.mp z
        exact (nx c hc).2 e
      · rcases List.mem_cons.mp hc with e3 | hc
        · rw [e3]
          exact ⟨h, [], xs, rfl, fun c' hc' => nomatch hc'⟩
        · obtain ⟨k1, l1, l2, k2, k3⟩ := h3 c hc
          refine ⟨(nx c hc).1, x :: l1, l2, by rw [k2]; rfl, fun c' hc' => ?_⟩
          rcases List.mem_cons.mp hc' with e4 | hc'
          · rw [e4]
            exact fun z => (nx c hc).2 z.symm
          · exact k3 c' hc'
      · rcases List.mem_cons.mp hc with rfl | hc
        · exact .inr (by simp)
        · rcases h4 c hc with h5 | h5
          · rw [List.map_append, List.mem_append] at h5
            rcases h5 with h5 | h5
            · exact .inl h5
            · refine .inr ?_
              have : lastL c = lastL x := by simpa using h5
              rw [this]
              simp
          · exact .inr (by rw [List.map_cons]; exact List.mem_cons_of_mem _ h5)
theorem longer_mem {g : Gm} {L : List (List Lt)} {c : List Lt} : c ∈ longer g L ↔ ∃ c0 ∈ L, ∃ l ∈ succ g (lastL c0), c = c0 ++ [l] := by
  unfold longer
  rw [List.mem_flatMap]
  refine ⟨fun ⟨c0, h1, h2⟩ => ?_, fun ⟨c0, h1, l, h2, e⟩ => ⟨c0, sortT_mem.mpr h1, List.mem_map.mpr ⟨l, h2, e.symm⟩⟩⟩
  obtain ⟨l, h3, e⟩ := List.mem_map.mp h2
  exact ⟨c0, sortT_mem.mp h1, l, h3, e.symm⟩
/-- the first with an end stands ahead of the others with it -/
theorem longer_first {g : Gm} : ∀ {S : List (List Lt)} {l1 l2 : List (List Lt)} {c0 d0 : List Lt} {l : Lt}, S.Pairwise (fun a b => leT a b = true) → (S.flatMap fun c => (succ g (lastL c)).map fun l => c ++ [l]) = l1 ++ (c0 ++ [l]) :: l2 → (∀ c' ∈ l1, lastL c' ≠ l) → d0 ∈ S → l ∈ succ g (lastL d0) → leT c0 d0 = true
  | [], _, _, _, _, _, _, _, _, h, _ => nomatch h
  | s :: S, l1, l2, c0, d0, l, hs, e, hn, hd, hl => by
    rw [List.flatMap_cons] at e
    obtain ⟨hs1, hs2⟩ := List.pairwise_cons.mp hs
    rcases List.append_eq_append_iff.mp e with ⟨m, e1, e2⟩ | ⟨m, e1, e2⟩
    · -- the head's part ends within l1 (or just there)
      rcases List.mem_cons.mp hd with rfl | hd
      · refine absurd (lastL_snoc d0 l) (hn (d0 ++ [l]) ?_)
        rw [e1]
        exact List.mem_append_left _ (List.mem_map.mpr ⟨l, hl, rfl⟩)
      · exact longer_first hs2 e2 (fun c' hc' => hn c' (by rw [e1]; exact List.mem_append_right _ hc')) hd hl
    · cases m with
      | nil =>
        rw [List.append_nil] at e1
        rw [List.nil_append] at e2
        rcases List.mem_cons.mp hd with rfl | hd
        · refine absurd (lastL_snoc d0 l) (hn (d0 ++ [l]) ?_)
          rw [← e1]
          exact List.mem_map.mpr ⟨l, hl, rfl⟩
        · exact longer_first (l1 := []) hs2 e2.symm (fun c' hc' => nomatch hc') hd hl
      | cons m0 m =>
        rw [List.cons_append] at e2
        injection e2 with e2 e3
        have hm : c0 ++ [l] ∈ (succ g (lastL s)).map fun l => s ++ [l] := by rw [e1, e2]; simp
        obtain ⟨l', _, e4⟩ := List.mem_map.mp hm
        have := (snoc_inj e4).1
        rw [← this]
        rcases List.mem_cons.mp hd with rfl | hd
        · exact leT_refl _
        · exact hs1 d0 hd
theorem CInv.turn {g : Gm} {a : Lt} {n : Nat} {s : CSt} (h : CInv g a n s) : CInv g a (n + 1) (turnC g s) := by
  obtain ⟨E, e, h2, h3, h4⟩ := foldC_spec (longer g s.2) s.1 []
  have eD : (turnC g s).1 = s.1 ++ E.map fun c => (lastL c, c) := by
    show ((longer g s.2).foldl insC (s.1, [])).1 = _
    rw [e]
  have eL : (turnC g s).2 = E := by
    show ((longer g s.2).foldl insC (s.1, [])).2 = _
    rw [e]
    rfl
  have mem1 : ∀ c ∈ longer g s.2, ∃ u l, Dst g n a u ∧ l ∈ succ g u ∧ c = chD g u n a ++ [l] := fun c hc => by
    obtain ⟨c0, k1, l, k2, k3⟩ := longer_mem.mp hc
    obtain ⟨u, k4, k5⟩ := (h.lev c0).mp k1
    rw [k5, (chD_wk k4).lastL] at k2
    exact ⟨u, l, k4, k2, by rw [k3, k5]⟩
  have hw : ∀ c ∈ E, Dst g (n + 1) a (lastL c) ∧ c = chD g (lastL c) (n + 1) a := fun c hc => by
    obtain ⟨k1, l1, l2, k2, k3⟩ := h3 c hc
    obtain ⟨u, l, k4, k5, k6⟩ := mem1 c (by rw [k2]; simp)
    have hlast : lastL c = l := by rw [k6, lastL_snoc]
    have wk := (chD_wk k4).snoc k5
    rw [← k6] at wk
    have hd : Dst g (n + 1) a l := ⟨wk.pn, fun i hi z => k1 (by rw [hlast]; exact h.all l i (by omega) z)⟩
    rw [hlast]
    refine ⟨hd, wk.uniq hd fun c' hc' => ?_⟩
    obtain ⟨b, c1, q1, q2, q3⟩ := hc'.unsnoc
    have hb : Dst g n a b := ⟨q1.pn, fun i hi z => hd.2 (i + 1) (by omega) (z.snoc q2)⟩
    have m1 : chD g b n a ∈ s.2 := (h.lev _).mpr ⟨b, hb, rfl⟩
    have f := longer_first (c0 := chD g u n a) (d0 := chD g b n a) (l := l) (sortT_sorted s.2) (by rw [← k6]; exact k2) (fun c' hc' z => k3 c' hc' (by rw [hlast]; exact z)) (sortT_mem.mpr m1) (by rw [(chD_wk hb).lastL]; exact q2)
    rw [k6, q3]
    exact leT_trans _ _ _ (leT_snoc (by rw [chD_len k4, chD_len hb]) f) (leT_snoc (by rw [chD_len hb, q1.len]) (chD_min hb q1))
  refine ⟨?_, ?_, ?_, ?_⟩
  · rw [eD, List.map_append, List.map_map]
    refine List.nodup_append.mpr ⟨h.nd, h2, fun x hx y hy z => ?_⟩
    obtain ⟨c, hc, ec⟩ := List.mem_map.mp hy
    refine (h3 c hc).1 ?_
    have ec' : lastL c = y := ec
    rw [ec', ← z]
    exact hx
  · rw [eD]
    intro p hp
    rcases List.mem_append.mp hp with hp | hp
    · obtain ⟨k, k1, k2, k3⟩ := h.val p hp
      exact ⟨k, by omega, k2, k3⟩
    · obtain ⟨c, hc, rfl⟩ := List.mem_map.mp hp
      exact ⟨n + 1, Nat.le_refl _, (hw c hc).1, (hw c hc).2⟩
  · rw [eD, List.map_append]
    intro k w hle hp
    by_cases hk : k ∈ s.1.map (·.1)
    · exact List.mem_append_left _ hk
    refine List.mem_append_right _ ?_
    have hwn : w = n + 1 := by
      by_cases z : w ≤ n
      · exact absurd (h.all k w z hp) hk
      · omega
    subst hwn
    obtain ⟨l, k4, k5⟩ := hp.last
    have hd : Dst g n a l := ⟨k4, fun i hi z => hk (h.all k (i + 1) (by omega) (z.snoc k5))⟩
    have hm : chD g l n a ++ [k] ∈ longer g s.2 := longer_mem.mpr ⟨_, (h.lev _).mpr ⟨l, hd, rfl⟩, k, by rw [(chD_wk hd).lastL]; exact k5, rfl⟩
    have := (h4 _ hm).resolve_left (by rw [lastL_snoc]; exact hk)
    rw [lastL_snoc] at this
    rw [List.map_map]
    exact this
  · intro c
    rw [eL]
    refine ⟨fun hc => ⟨lastL c, hw c hc⟩, fun ⟨l, hd, hc⟩ => ?_⟩
    have wk := chD_wk hd
    rw [← hc] at wk
    obtain ⟨b, c1, q1, q2, q3⟩ := wk.unsnoc
    have hb : Dst g n a b := ⟨q1.pn, fun i hi z => hd.2 (i + 1) (by omega) (z.snoc q2)⟩
    have hk : l ∉ s.1.map (·.1) := fun z => by
      obtain ⟨p, hp, rfl⟩ := List.mem_map.mp z
      obtain ⟨k, k1, k2, _⟩ := h.val p hp
      have := k2.uniq hd
      omega
    have hm : chD g b n a ++ [l] ∈ longer g s.2 := longer_mem.mpr ⟨_, (h.lev _).mpr ⟨b, hb, rfl⟩, l, by rw [(chD_wk hb).lastL]; exact q2, rfl⟩
    have hin := (h4 _ hm).resolve_left (by rw [lastL_snoc]; exact hk)
    rw [lastL_snoc] at hin
    obtain ⟨d, hd1, hd2⟩ := List.mem_map.mp hin
    have := (hw d hd1).2
    rw [hd2, ← hc] at this
    rw [← this]
    exact hd1
theorem CInv.start {g : Gm} {a : Lt} : CInv g a 0 ([(a, [a])], [[a]]) := by
  have d0 : Dst g 0 a a := ⟨rfl, fun i hi => absurd hi (Nat.not_lt_zero _)⟩
  refine ⟨by simp, fun p hp => ?_, fun k w hw hp => ?_, fun c => ?_⟩
  · rw [List.mem_singleton.mp hp]
    exact ⟨0, Nat.le_refl _, d0, rfl⟩
  · obtain rfl : w = 0 := Nat.le_zero.mp hw
    rw [← show a = k from hp]
    simp
  · refine ⟨fun hc => ⟨a, d0, by rw [List.mem_singleton.mp hc]; rfl⟩, fun ⟨l, hd, hc⟩ => ?_⟩
    rw [hc]
    exact List.mem_singleton.mpr rfl
theorem CInv.itr {g : Gm} {a : Lt} : ∀ m, CInv g a m (itr (turnC g) m ([(a, [a])], [[a]]))
  | 0 => CInv.start
  | m + 1 => (CInv.itr m).turn
/-- the chains built, looked up -/
def getC (D : List (Lt × List Lt)) (l : Lt) : Option (List Lt) := (D.find? fun p => decide (p.1 = l)).map (·.2)
theorem getC_mem {D : List (Lt × List Lt)} (h : (D.map (·.1)).Nodup) {p : Lt × List Lt} (hp : p ∈ D) : getC D p.1 = some p.2 := by
  unfold getC
  cases e : D.find? fun q => decide (q.1 = p.1) with
  | none => exact absurd (decide_eq_true rfl) (List.find?_eq_none.mp e p hp)
  | some q =>
    have h1 := List.mem_of_find?_eq_some e
    have h2 : q.1 = p.1 := by simpa using List.find?_some e
    obtain ⟨i, hi, ei⟩ := List.getElem_of_mem h1
    obtain ⟨j, hj, ej⟩ := List.getElem_of_mem hp
    have : i = j := (List.getElem_inj (h₀ := by rw [List.length_map]; exact hi) (h₁ := by rw [List.length_map]; exact hj) h).mp (by rw [List.getElem_map, List.getElem_map, ei, ej, h2])
    subst this
    rw [ei] at ej
    rw [ej]
    rfl
theorem getC_none {D : List (Lt × List Lt)} {l : Lt} (h : l ∉ D.map (·.1)) : getC D l = none := by
  unfold getC
  rw [List.find?_eq_none.mpr fun p hp => by
    have : p.1 ≠ l := fun z => h (List.mem_map.mpr ⟨p, hp, z⟩)
    simpa using this]
  rfl
theorem chainsF_nd (g : Gm) (a : Lt) : ((chainsF g a).map (·.1)).Nodup := (CInv.itr (g := g) (a := a) (2 * g.ops.length)).nd
theorem chainsF_keys {g : Gm} (hg : GmOk g) {a : Lt} (ha : a.1 ∈ g.names) {l : Lt} : l ∈ (chainsF g a).map (·.1) ↔ ∃ n, Pn g n a l := by
  have I := CInv.itr (g := g) (a := a) (2 * g.ops.length)
  refine ⟨fun h => ?_, fun ⟨n, h⟩ => ?_⟩
  · obtain ⟨p, hp, rfl⟩ := List.mem_map.mp h
    obtain ⟨k, _, h2, _⟩ := I.val p hp
    exact ⟨k, h2.1⟩
  · obtain ⟨m, _, hd⟩ := Dst.of h
    exact I.all l m (Nat.le_of_lt (hd.lt hg ha)) hd.1
/-- what is built is the best -/
theorem chainsF_get {g : Gm} (hg : GmOk g) {a : Lt} (ha : a.1 ∈ g.names) (l : Lt) : getC (chainsF g a) l = bestC g a l := by
  have I := CInv.itr (g := g) (a := a) (2 * g.ops.length)
  rcases bestC_cases g a l with ⟨n, hd, e⟩ | ⟨hn, e⟩
  · have hk := (chainsF_keys hg ha).mpr ⟨n, hd.1⟩
    obtain ⟨p, hp, rfl⟩ := List.mem_map.mp hk
    obtain ⟨k, _, h2, h3⟩ := I.val p hp
    rw [getC_mem (chainsF_nd g a) hp, e, h3, h2.uniq hd]
  · rw [e, getC_none fun h => ?_]
    obtain ⟨n, h⟩ := (chainsF_keys hg ha).mp h
    exact hn n h
theorem chainsF_len {g : Gm} (hg : GmOk g) {a : Lt} (ha : a.1 ∈ g.names) : (chainsF g a).length ≤ 2 * g.ops.length := by
  have := nodup_le (chainsF_nd g a) (m := lits g) fun l hl => by
    obtain ⟨n, h⟩ := (chainsF_keys hg ha).mp hl
    exact lits_mem.mpr (h.names hg ha)
  rw [List.length_map, lits_len] at this
  exact this
end Fc
/-! FcPb: the plain law: the best of several chains; what is accepted and what contradicts. -/
namespace Fc
open PySem PySem.W PySem.Spec PyProof.Rows L2
/-! ### the best of several -/
theorem cdOf_inj {a b : List Lt} (h : cdOf a = cdOf b) : a = b := congrArg Prod.snd h
theorem csOf_mem {os : List (Option (List Lt))} {x : CD} : x ∈ csOf os ↔ ∃ c, some c ∈ os ∧ x = cdOf c := by
  unfold csOf
  rw [List.mem_map]
  refine ⟨fun ⟨c, h, e⟩ => ⟨c, ?_, e.symm⟩, fun ⟨c, h, e⟩ => ⟨c, ?_, e.symm⟩⟩
  · obtain ⟨o, h1, h2⟩ := List.mem_filterMap.mp h
    have : o = some c := h2
    rw [← this]
    exact h1
  · exact List.mem_filterMap.mpr ⟨some c, h, rfl⟩
theorem pickC_cases (os : List (Option (List Lt))) : (pickC os = none ∧ ∀ c, some c ∉ os) ∨ ∃ c, pickC os = some c ∧ some c ∈ os ∧ ∀ c', some c' ∈ os → leT (cdOf c) (cdOf c') = true := by
  have e : pickC os = (sortT (csOf os)).head?.map (·.2) := rfl
  have hs := sortT_sorted (csOf os)
  have hm : ∀ x, x ∈ sortT (csOf os) ↔ x ∈ csOf os := fun x => sortT_mem
  rw [e]
  generalize sortT (csOf os) = L at hs hm
  cases L with
  | nil =>
    refine .inl ⟨rfl, fun c hc => ?_⟩
    exact nomatch (hm (cdOf c)).mpr (csOf_mem.mpr ⟨c, hc, rfl⟩)
  | cons x L =>
    obtain ⟨c, h1, h2⟩ := csOf_mem.mp ((hm x).mp List.mem_cons_self)
    refine .inr ⟨c, by rw [h2]; rfl, h1, fun c' hc' => ?_⟩
    have := (hm (cdOf c')).mpr (csOf_mem.mpr ⟨c', hc', rfl⟩)
    rw [← h2]
    rcases List.mem_cons.mp this with e | h
    · rw [e]; exact leT_refl _
    · exact (List.pairwise_cons.mp hs).1 _ h
theorem pickC_of {os : List (Option (List Lt))} {c : List Lt} (h : some c ∈ os) (k : ∀ c', some c' ∈ os → leT (cdOf c) (cdOf c') = true) : pickC os = some c := by
  rcases pickC_cases os with ⟨_, h2⟩ | ⟨d, h1, h2, h3⟩
  · exact absurd h (h2 c)
  · rw [h1, cdOf_inj (leT_anti (h3 c h) (k d h2))]
theorem pickC_no {os : List (Option (List Lt))} (h : ∀ c, some c ∉ os) : pickC os = none := by
  rcases pickC_cases os with ⟨h1, _⟩ | ⟨d, _, h2, _⟩
  · exact h1
  · exact absurd h2 (h d)
theorem pickC_congr {os os' : List (Option (List Lt))} (h : ∀ c, some c ∈ os ↔ some c ∈ os') : pickC os = pickC os' := by
  rcases pickC_cases os' with ⟨h1, h2⟩ | ⟨d, h1, h2, h3⟩
  · rw [h1]
    exact pickC_no fun c hc => h2 c ((h c).mp hc)
  · rw [h1]
    exact pickC_of ((h d).mpr h2) fun c' hc' => h3 c' ((h c').mp hc')
theorem pickC_join {α : Type} (f : α → List (Option (List Lt))) (xs : List α) : pickC (xs.map fun a => pickC (f a)) = pickC (xs.flatMap f) := by
  rcases pickC_cases (xs.flatMap f) with ⟨h1, h2⟩ | ⟨d, h1, h2, h3⟩
  · rw [h1]
    refine pickC_no fun c hc => ?_
    obtain ⟨a, ha, e⟩ := List.mem_map.mp hc
    rcases pickC_cases (f a) with ⟨k1, _⟩ | ⟨b, k1, k2, _⟩
    · rw [k1] at e; cases e
    · rw [k1] at e
      exact h2 b (List.mem_flatMap.mpr ⟨a, ha, k2⟩)
  · rw [h1]
    have key : ∀ c', some c' ∈ (xs.map fun a => pickC (f a)) → some c' ∈ xs.flatMap f := fun c' hc' => by
      obtain ⟨a, ha, e⟩ := List.mem_map.mp hc'
      rcases pickC_cases (f a) with ⟨k1, _⟩ | ⟨b, k1, k2, _⟩
      · rw [k1] at e; cases e
      · rw [k1] at e
        cases e
        exact List.mem_flatMap.mpr ⟨a, ha, k2⟩
    obtain ⟨a, ha, hf⟩ := List.mem_flatMap.mp h2
    refine pickC_of (List.mem_map.mpr ⟨a, ha, ?_⟩) fun c' hc' => h3 c' (key c' hc')
    exact pickC_of hf fun c' hc' => h3 c' (List.mem_flatMap.mpr ⟨a, ha, hc'⟩)
/-- from some starts to some goals -/
noncomputable def prsC (g : Gm) (ss ts : List Lt) : List (Option (List Lt)) := ss.flatMap fun s => ts.map fun t => bestC g s t
noncomputable def bestL (g : Gm) (ss ts : List Lt) : Option (List Lt) := pickC (prsC g ss ts)
theorem prsC_mem {g : Gm} {ss ts : List Lt} {o : Option (List Lt)} : o ∈ prsC g ss ts ↔ ∃ s ∈ ss, ∃ t ∈ ts, bestC g s t = o := by
  unfold prsC
  rw [List.mem_flatMap]
  refine exists_congr fun s => and_congr_right fun _ => ?_
  rw [List.mem_map]
theorem bestOf_eq {g : Gm} {ss ss' : List Lt} {t : Lt} (h : ∀ s, s ∈ ss ↔ s ∈ ss') : bestOf g ss t = bestL g ss' [t] := by
  refine pickC_congr fun c => ?_
  rw [prsC_mem, List.mem_map]
  refine ⟨fun ⟨s, h1, h2⟩ => ⟨s, (h s).mp h1, t, List.mem_singleton.mpr rfl, h2⟩, fun ⟨s, h1, t', h2, h3⟩ => ⟨s, (h s).mpr h1, ?_⟩⟩
  rw [← h3, List.mem_singleton.mp h2]
theorem conflC_eq {g : Gm} {ns ns' : List Str} (h : ∀ n, n ∈ ns ↔ n ∈ ns') : conflC g ns = bestL g (ns'.map fun m => (m, true)) (ns'.map fun m => (m, false)) := by
  unfold conflC bestOf
  rw [pickC_join (fun n => (ns.map fun m => (m, true)).map fun s => bestC g s (n, false))]
  refine pickC_congr fun c => ?_
  rw [prsC_mem, List.mem_flatMap]
  refine ⟨fun ⟨n, h1, h2⟩ => ?_, fun ⟨s, h1, t, h2, h3⟩ => ?_⟩
  · obtain ⟨s, h3, h4⟩ := List.mem_map.mp h2
    obtain ⟨m, h5, rfl⟩ := List.mem_map.mp h3
    exact ⟨(m, true), List.mem_map.mpr ⟨m, (h m).mp h5, rfl⟩, (n, false), List.mem_map.mpr ⟨n, (h n).mp h1, rfl⟩, h4⟩
  · obtain ⟨m, h5, rfl⟩ := List.mem_map.mp h1
    obtain ⟨n, h6, rfl⟩ := List.mem_map.mp h2
    exact ⟨n, (h n).mpr h6, List.mem_map.mpr ⟨(m, true), List.mem_map.mpr ⟨m, (h m).mpr h5, rfl⟩, h3⟩⟩
/-- min -/
theorem minOf_le {α : Type} [DecidableEq α] [DatumOrd α] : ∀ (xs : List α) (x : α), minOf x xs ∈ x :: xs ∧ ∀ y ∈ x :: xs, leT (minOf x xs) y = true
  | [], x => ⟨List.mem_cons_self, fun y hy => by rw [List.mem_singleton.mp hy]; exact leT_refl _⟩
  | z :: xs, x => by
    have e : minOf x (z :: xs) = minOf (if DatumOrd.lt z x = true then z else x) xs := rfl
    obtain ⟨h1, h2⟩ := minOf_le xs (if DatumOrd.lt z x = true then z else x)
    rw [e]
    by_cases h : DatumOrd.lt z x = true
    · rw [if_pos h] at h1 h2 ⊢
      refine ⟨?_, fun y hy => ?_⟩
      · rcases List.mem_cons.mp h1 with h | h
        · rw [h]; simp
        · exact List.mem_cons_of_mem _ (List.mem_cons_of_mem _ h)
      · rcases List.mem_cons.mp hy with rfl | hy
        · exact leT_trans _ _ _ (h2 z List.mem_cons_self) (leT_of_lt h)
        · exact h2 y hy
    · rw [if_neg h] at h1 h2 ⊢
      have hx : leT x z = true := by unfold leT; simpa using h
      refine ⟨?_, fun y hy => ?_⟩
      · rcases List.mem_cons.mp h1 with h | h
        · rw [h]; simp
        · exact List.mem_cons_of_mem _ (List.mem_cons_of_mem _ h)
      · rcases List.mem_cons.mp hy with rfl | hy
        · exact h2 y List.mem_cons_self
        · rcases List.mem_cons.mp hy with rfl | hy
          · exact leT_trans _ _ _ (h2 x List.mem_cons_self) hx
          · exact h2 y (List.mem_cons_of_mem _ hy)
theorem pickC_min {os : List (Option (List Lt))} {x : CD} {xs : List CD} (h : csOf os = x :: xs) : pickC os = some (minOf x xs).2 := by
  obtain ⟨h1, h2⟩ := minOf_le xs x
  rw [← h] at h1 h2
  obtain ⟨c, h3, h4⟩ := csOf_mem.mp h1
  rw [h4]
  exact pickC_of h3 fun c' hc' => h4 ▸ h2 _ (csOf_mem.mpr ⟨c', hc', rfl⟩)
theorem pickC_nil {os : List (Option (List Lt))} (h : csOf os = []) : pickC os = none := pickC_no fun c hc => by
  have := csOf_mem.mpr ⟨c, hc, rfl⟩
  rw [h] at this
  exact nomatch this
/-! ### what fits -/
def litIn (S : List Str) (l : Lt) : Bool := decide (decide (l.1 ∈ S) = l.2)
def fitsC (S : List Str) (c : Cl) : Bool := litIn S (litsOf c).1 || litIn S (litsOf c).2
def fitsL (cs : List Cl) (S : List Str) : Bool := cs.all (fitsC S)
theorem litIn_neg (S : List Str) (l : Lt) : litIn S (neg l) = !litIn S l := by
  unfold litIn neg
  obtain ⟨n, b⟩ := l
  dsimp only
  by_cases h : n ∈ S <;> cases b <;> simp [h]
theorem fits_step {g : Gm} {S : List Str} (h : fitsL g.cls S = true) {l k : Lt} (hk : k ∈ succ g l) (hl : litIn S l = true) : litIn S k = true := by
  obtain ⟨c, hc, h2⟩ := tgts_mem.mp (succ_mem.mp hk)
  have hf := List.all_eq_true.mp h c hc
  unfold fitsC at hf
  rcases h2 with ⟨e1, e2⟩ | ⟨e1, e2⟩
  · rw [← e1, litIn_neg] at hl
    rw [e2] at hf
    have : litIn S (litsOf c).1 = false := by simpa using hl
    rw [this] at hf
    simpa using hf
  · rw [← e1, litIn_neg] at hl
    rw [e2] at hf
    have : litIn S (litsOf c).2 = false := by simpa using hl
    rw [this] at hf
    simpa using hf
theorem fits_pn {g : Gm} {S : List Str} (h : fitsL g.cls S = true) : ∀ {n : Nat} {l k : Lt}, Pn g n l k → litIn S l = true → litIn S k = true
  | 0, l, k, p, hl => by rw [← show l = k from p]; exact hl
  | n + 1, l, k, ⟨x, hx, p⟩, hl => fits_pn h p (fits_step h hx hl)
theorem bestC_isSome {g : Gm} {a b : Lt} : (bestC g a b).isSome = true ↔ ∃ n, Pn g n a b := by
  rcases bestC_cases g a b with ⟨n, h1, h2⟩ | ⟨h1, h2⟩
  · rw [h2]; exact ⟨fun _ => ⟨n, h1.1⟩, fun _ => rfl⟩
  · rw [h2]
    exact ⟨fun h => (nomatch h), fun ⟨n, h⟩ => absurd h (h1 n)⟩
theorem con_sound {g : Gm} {S : List Str} (h : fitsL g.cls S = true) : findCon g = none := by
  refine List.findSome?_eq_none_iff.mpr fun n _ => ?_
  cases e : conOf g n with
  | none => rfl
  | some p =>
    have h1 : (conOf g n).isSome = true := by rw [e]; rfl
    rw [conOf_some, Bool.and_eq_true] at h1
    obtain ⟨i, p1⟩ := bestC_isSome.mp h1.1
    obtain ⟨j, p2⟩ := bestC_isSome.mp h1.2
    by_cases hn : n ∈ S
    · have := fits_pn h p2 (show litIn S (n, true) = true by unfold litIn; simp [hn])
      unfold litIn at this
      simp [hn] at this
    · have := fits_pn h p1 (show litIn S (n, false) = true by unfold litIn; simp [hn])
      unfold litIn at this
      simp [hn] at this
/-- what can be held true together -/
structure Hold (g : Gm) (ns : List Str) (A : Lt → Prop) : Prop where
  step : ∀ l k, A l → k ∈ succ g l → A k
  con : ∀ l, A l → A (neg l) → False
  all : ∀ n ∈ ns, A (n, true) ∨ A (n, false)
theorem Hold.pn {g : Gm} {ns : List Str} {A : Lt → Prop} (h : Hold g ns A) : ∀ {n : Nat} {l k : Lt}, Pn g n l k → A l → A k
  | 0, l, k, p, hl => by rw [← show l = k from p]; exact hl
  | n + 1, l, k, ⟨x, hx, p⟩, hl => h.pn p (h.step l x hl hx)
theorem hold_some {g : Gm} : ∀ ns : List Str, (∀ n ∈ ns, ¬ ((∃ i, Pn g i (n, false) (n, true)) ∧ ∃ j, Pn g j (n, true) (n, false))) → ∃ A, Hold g ns A
  | [], _ => ⟨fun _ => False, fun _ _ h _ => h, fun _ h _ => h, fun _ h => nomatch h⟩
  | n :: ns, hn => by
    obtain ⟨A, h⟩ := hold_some ns fun m hm => hn m (List.mem_cons_of_mem _ hm)
    by_cases hd : A (n, true) ∨ A (n, false)
    · refine ⟨A, h.step, h.con, fun m hm => ?_⟩
      rcases List.mem_cons.mp hm with rfl | hm
      · exact hd
      · exact h.all m hm
    · obtain ⟨b, hb⟩ : ∃ b : Bool, ¬ ∃ i, Pn g i (n, b) (n, !b) := by
        by_cases z : ∃ i, Pn g i (n, false) (n, true)
        · exact ⟨true, fun z2 => hn n List.mem_cons_self ⟨z, z2⟩⟩
        · exact ⟨false, z⟩
      have nb : ¬ A (n, !b) := fun z => hd (by cases b <;> simp_all)
      have back : ∀ l i, Pn g i (n, b) (neg l) → Pn g i l (n, !b) := fun l i p => by
        have := p.neg
        rw [neg_neg] at this
        exact this
      refine ⟨fun l => A l ∨ ∃ i, Pn g i (n, b) l, fun l k hl hk => ?_, fun l h1 h2 => ?_, fun m hm => ?_⟩
      · rcases hl with hl | ⟨i, hl⟩
        · exact .inl (h.step l k hl hk)
        · exact .inr ⟨i + 1, hl.snoc hk⟩
      · rcases h1 with h1 | ⟨i, h1⟩
        · rcases h2 with h2 | ⟨j, h2⟩
          · exact h.con l h1 h2
          · exact nb (h.pn (back l j h2) h1)
        · rcases h2 with h2 | ⟨j, h2⟩
          · refine nb (h.pn (back (neg l) i ?_) h2)
            rw [neg_neg]
            exact h1
          · exact hb ⟨i + j, h1.trans (back l j h2)⟩
      · rcases List.mem_cons.mp hm with rfl | hm
        · cases b
          · exact .inr (.inr ⟨0, rfl⟩)
          · exact .inl (.inr ⟨0, rfl⟩)
        · rcases h.all m hm with z | z
          · exact .inl (.inl z)
          · exact .inr (.inl z)
open Classical in
theorem con_complete {g : Gm} (hg : GmOk g) (h : findCon g = none) : ∃ p : Str → Bool, fitsL g.cls ((sortT g.names).filter p) = true := by
  obtain ⟨A, hA⟩ := hold_some (g := g) g.names fun n hn ⟨h1, h2⟩ => by
    have := List.findSome?_eq_none_iff.mp h n hn
    have h3 : (conOf g n).isSome = true := by rw [conOf_some, bestC_isSome.mpr h1, bestC_isSome.mpr h2]; rfl
    rw [this] at h3
    cases h3
  refine ⟨fun n => decide (A (n, true)), List.all_eq_true.mpr fun c hc => ?_⟩
  have mem : ∀ n, n ∈ g.names → (n ∈ (sortT g.names).filter (fun n => decide (A (n, true))) ↔ A (n, true)) := fun n hn => by
    rw [List.mem_filter, sortT_mem]
    exact ⟨fun z => of_decide_eq_true z.2, fun z => ⟨hn, decide_eq_true z⟩⟩
  have lit : ∀ l : Lt, l.1 ∈ g.names → A l → litIn ((sortT g.names).filter (fun n => decide (A (n, true)))) l = true := fun l hl ha => by
    unfold litIn
    obtain ⟨n, b⟩ := l
    cases b with
    | true => exact decide_eq_true (decide_eq_true ((mem n hl).mpr ha))
    | false => exact decide_eq_true (decide_eq_false fun z => hA.con (n, false) ha ((mem n hl).mp z))
  obtain ⟨n1, n2⟩ := litsOf_names (hg.cl c hc).2
  unfold fitsC
  by_cases h1 : A (litsOf c).1
  · rw [lit _ n1 h1]; rfl
  · have h2 : A (neg (litsOf c).1) := by
      rcases hA.all _ n1 with z | z
      · cases e : (litsOf c).1.2 with
        | true => exact absurd (show A (litsOf c).1 by rw [← e] at z; exact z) h1
        | false => have : neg (litsOf c).1 = ((litsOf c).1.1, true) := by unfold neg; rw [e]; rfl
                   rw [this]; exact z
      · cases e : (litsOf c).1.2 with
        | false => exact absurd (show A (litsOf c).1 by rw [← e] at z; exact z) h1
        | true => have : neg (litsOf c).1 = ((litsOf c).1.1, false) := by unfold neg; rw [e]; rfl
                  rw [this]; exact z
    have h3 : A (litsOf c).2 := hA.step _ _ h2 (succ_mem.mpr (tgts_mem.mpr ⟨c, hc, .inl ⟨rfl, rfl⟩⟩))
    rw [lit _ n2 h3, Bool.or_true]
/-! ### all sets -/
def subsF : List Str → List (List Str) := fun ns => ns.foldl (fun f n => f ++ f.map (· ++ [n])) [[]]
theorem subsF_mem (p : Str → Bool) (ns : List Str) : ns.filter p ∈ subsF ns := by
  have key : ∀ (ns : List Str) (f : List (List Str)) (s : List Str), s ∈ f → s ++ ns.filter p ∈ ns.foldl (fun f n => f ++ f.map (· ++ [n])) f := by
    intro ns
    induction ns with
    | nil => intro f s h; simpa using h
    | cons n ns ih =>
      intro f s h
      rw [List.foldl_cons, List.filter_cons]
      split
      · have := ih (f ++ f.map (· ++ [n])) (s ++ [n]) (List.mem_append_right _ (List.mem_map.mpr ⟨s, h, rfl⟩))
        simpa using this
      · exact ih _ s (List.mem_append_left _ h)
  have := key ns [[]] [] (by simp)
  rw [List.nil_append] at this
  exact this
def setsF (g : Gm) : List (List Str) := (subsF (sortT g.names)).filter (fitsL g.cls)
theorem sets_iff {g : Gm} (hg : GmOk g) : setsF g = [] ↔ findCon g ≠ none := by
  refine ⟨fun h hc => ?_, fun h => ?_⟩
  · obtain ⟨p, hp⟩ := con_complete hg hc
    have : (sortT g.names).filter p ∈ setsF g := List.mem_filter.mpr ⟨subsF_mem p _, hp⟩
    rw [h] at this
    exact nomatch this
  · refine List.eq_nil_iff_forall_not_mem.mpr fun S hS => h (con_sound (List.mem_filter.mp hS).2)
/-! ### chains that are checked -/
theorem step_some {g : Gm} {a b : Lt} (h : b ∈ succ g a) : ∃ c, stepC g a b = some c := by
  obtain ⟨c, hc, h2⟩ := tgts_mem.mp (succ_mem.mp h)
  have e : isStep a b c = true := by
    refine decide_eq_true ?_
    rcases h2 with ⟨e1, e2⟩ | ⟨e1, e2⟩
    · rw [← e1, neg_neg, e2]
    · rw [← e1, neg_neg, e2]
      exact sortT_congr (List.Perm.swap _ _ _)
  unfold stepC
  cases e3 : g.cls.find? (isStep a b) with
  | none => exact absurd e (List.find?_eq_none.mp e3 c hc)
  | some d => exact ⟨d, rfl⟩
theorem chain_ok {g : Gm} (hg : GmOk g) {n : Nat} {a b : Lt} (hd : Dst g n a b) (ha : a.1 ∈ g.names) : ∃ cs : List Cl, cs.length = n ∧ ChOk g (chD g b n a) cs := by
  have wk := chD_wk hd
  have hl := wk.len
  let stp : Nat → Cl := fun i => match (chD g b n a)[i]?, (chD g b n a)[i + 1]? with
    | some x, some y => (stepC g x y).getD ⟨"", "", ""⟩
    | _, _ => ⟨"", "", ""⟩
  refine ⟨(List.range n).map stp, by rw [List.length_map, List.length_range], hg, chD_names hg ha, by rw [hl, List.length_map, List.length_range], ?_, fun i x y h1 h2 => ?_⟩
  · rw [List.length_map, List.length_range]
    have := hd.lt hg ha
    have := hg.len.2
    omega
  · have hi : i < n := by
      have := (List.getElem?_eq_some_iff.mp h2).1
      omega
    obtain ⟨c, hc⟩ := step_some (wk.step i x y h1 h2)
    refine ⟨c, ?_, hc⟩
    rw [List.getElem?_map, List.getElem?_range hi]
    show some (match (chD g b n a)[i]?, (chD g b n a)[i + 1]? with
      | some x, some y => (stepC g x y).getD ⟨"", "", ""⟩
      | _, _ => ⟨"", "", ""⟩) = some c
    rw [h1, h2]
    show some ((stepC g x y).getD ⟨"", "", ""⟩) = some c
    rw [hc]
    rfl
/-! ### what is reached -/
end Fc
/-! FcLe: _law_literals, _law_fits, _law_next_literals. -/
namespace Fc
open PySem PySem.W PySem.Spec PyProof.Rows L2
theorem tgl_two {K : PySem.W.Frag} {i j : Nat} {vs : List Nat} {ρ : Rho} {d1 d2 : PyData} (h1 : i ∈ vs) (h2 : j ∈ vs) : Tg (gLst K 2 (gCons (gName i) (gCons (gName j) gNil))) vs ρ (dat K (.list [d1, d2])) ((ρ.set i (.per (dat K d1))).set j (.per (dat K d2))) := ⟨fun F B H τ x Q e hx q => by
  obtain ⟨a, xs, rfl, hs, hd⟩ := dp_list hx
  obtain ⟨x1, r1, rfl, k1, hd⟩ := dps_cons hd
  obtain ⟨x2, r2, rfl, k2, hd⟩ := dps_cons hd
  obtain rfl := dps_nil hd
  refine ⟨a, _, rfl, same_l e.sp.bas hs, rfl, x1, _, rfl, x2, _, rfl, rfl, ?_⟩
  refine q _ ((e.set k1).set k2) (fun k hk => ?_) (by rw [List.length_set, List.length_set])
  rw [out_set h2 hk, out_set h1 hk]⟩
section
variable {P : Program} {w : World} {K : PySem.W.Frag} {mg : Str → Option Value} {base : Heap}
abbrev sp_lliterals (K : PySem.W.Frag) : Sp := spI (ι := Cl) (fun _ => True) (fun c => [dat K (clD c)]) (fun c => dat K (.list [litD (litsOf c).1, litD (litsOf c).2]))
theorem ok_lliterals (T : Txt K mg) : FnOk P w K mg base CX0 1 T.law_literals.a T.law_literals.d ["_law_clause"] (sp_lliterals K) := by
  have nd := sc_law_literals.nd
  refine fn_pure T.law_literals.F sc_law_literals (fun _ => rfl) (fun cdv A outer s H E c hr _ => ?_)
  refine ⟨_, b_cons (s_asg (d_var 0) (pg_tup rfl (pgs_cons (pg_name (i := 1) nd rfl (.inl rfl)) (pgs_cons (pg_name (i := 2) nd rfl (.inl rfl)) (pgs_cons (pg_name (i := 3) nd rfl (.inl rfl)) pgs_nil)))) (tg_three (vs := [1, 2, 3]) (by decide) (by decide) (by decide)))
    (b_ifr (k := decide (c.word = "needs")) (t_cmp op_eq (opd_eqS rfl) (d_var 1) d_str)
      (fun hk => b_ret (s_ret (d_eq (d_lst (ds := [_, _]) (a_cons (d_tup (ds := [_, _]) (a_cons (d_var 2) (a_cons d_bl a_nil))) (a_cons (d_tup (ds := [_, _]) (a_cons (d_var 3) (a_cons d_bl a_nil))) a_nil))) ?yes)))
      (fun hk => b_ret (s_ret (d_eq (d_lst (ds := [_, _]) (a_cons (d_tup (ds := [_, _]) (a_cons (d_var 2) (a_cons (d_cmp op_eq (opd_eqS rfl) (d_var 1) d_str) a_nil))) (a_cons (d_tup (ds := [_, _]) (a_cons (d_var 3) (a_cons (d_cmp op_eq (opd_eqS rfl) (d_var 1) d_str) a_nil))) a_nil))) ?no)))), .inl ⟨_, rfl⟩⟩
  case yes =>
    have e : litsOf c = ((c.a, false), (c.b, true)) := if_pos (of_decide_eq_true hk)
    rw [e]
    rfl
  case no =>
    have e : litsOf c = ((c.a, decide (c.word = "either")), (c.b, decide (c.word = "either"))) := if_neg (of_decide_eq_false hk)
    rw [e]
    rfl
/-! ### fits -/
theorem fits_eq (S : List Str) (c : Cl) : PyData.eqv (.list (([(litsOf c).1, (litsOf c).2].filter (litIn S)).map fun l => PyData.str l.1)) (.list []) = !fitsC S c := by
  have e : (([(litsOf c).1, (litsOf c).2].filter (litIn S)).map fun l => PyData.str l.1) = (([(litsOf c).1, (litsOf c).2].filter (litIn S)).map (·.1)).map PyData.str := by rw [List.map_map]; rfl
  rw [e]
  refine (Datum.eqv (α := List Str) _ []).trans ?_
  unfold fitsC
  cases h1 : litIn S (litsOf c).1 <;> cases h2 : litIn S (litsOf c).2 <;> simp [List.filter_cons, h1, h2]
abbrev sp_lfits (K : PySem.W.Frag) : Sp := spI (ι := List Cl × List Str) (fun i => True) (fun i => [dat K (.tuple (i.1.map clD)), dat K (.list (i.2.map .str))]) (fun i => dat K (.bool (fitsL i.1 i.2)))
theorem ok_lfits (T : Txt K mg) : FnOk P w K mg base CX0 2 T.law_fits.a T.law_fits.d ["_law_clauses_here", "_law_names_here"] (sp_lfits K) := by
  have nd := sc_law_fits.nd
  refine fn_pure T.law_fits.F sc_law_fits (fun _ => rfl) (fun cdv A outer s H E i hr _ => ?_)
  obtain ⟨cs, S⟩ := i
  have hu := hr.units
  let st : Rho := [.per (dat K (.tuple (cs.map clD))), .per (dat K (.list (S.map .str))), .no, .no, .no]
  let sb : Cl → Rho := fun c => st.set 2 (.per (dat K (clD c)))
  by_cases hf : fitsL cs S = true
  · refine ⟨.rt (dat K (.bool (fitsL cs S))) st, b_cons (s_for (vs := [2]) (i_tupT (xs := cs) (f := clD) (d_var 0)) (pg_name (i := 2) nd rfl (.inl rfl)) (fun _ => st) (fun i => st.set 2 (.per (dat K ((cs[i]?.map clD).getD .none)))) (Sub.refl _) ?ht ?body) (b_ret (s_ret (d_eq d_bl (by rw [hf])))), .inl ⟨_, rfl⟩⟩
    case ht =>
      intro i r h
      obtain ⟨c, hc, _, rfl⟩ := get_map h
      try dsimp only
      rw [hc]
      exact tg_name (by decide)
    case body =>
      intro i r h
      obtain ⟨c, hc, hm, rfl⟩ := get_map h
      try dsimp only
      rw [hc]
      have h1 : fitsC S c = true := List.all_eq_true.mp hf c hm
      refine ⟨sb c, b_no (t_cmp (op_eqP hu) (opd_eqP (pl_of _) (plT (α := List Str) []) ((fits_eq S c).trans (by rw [h1]; rfl))) (d_lcT (own := [("_law_name", 3), ("_law_truth", 4)]) ⟨i_listT (xs := [(litsOf c).1, (litsOf c).2]) (f := litD) (ρ1 := sb c) (d_callT T.law_literals (ok_lliterals T) c trivial hr (a_cons (d_var 2) a_nil)), blkOk_by (N := ["_law_clauses_here", "_law_names_here", "_law_clause", "_law_name", "_law_truth"]) (sc := defScope s_law_fits) (by decide +kernel),
          (fun _ _ _ _ _ => pg_tup rfl (pgs_cons (pg_name (i := 3) nd rfl (.inl rfl)) (pgs_cons (pg_name (i := 4) nd rfl (.inl rfl)) pgs_nil))), NoAt.cons rfl (NoAt.cons rfl NoAt.nil), fun l _ => tg_two (ρ := sb c) (d1 := .str l.1) (d2 := .bool l.2) (by decide) (by decide), fun l _ => (Sub.unset (ρ := (sb c).set 3 _) (j := 4) rfl).trans (Sub.unset rfl),
          fun l _ _ _ _ _ _ => ts_one (t_cmp op_eq (opd_eqB rfl) (d_cmp op_in_seq (opd_inL (x := l.1) (xs := S) rfl) (d_var 3) (d_var 1)) (d_var 4)), fun l _ _ _ _ _ _ _ => d_var 3, by show 2 ≤ 1000000; decide⟩) (d_lst (ds := []) a_nil)) b_nil, Sub.unset rfl⟩
  · have hf' : fitsL cs S = false := by simpa using hf
    obtain ⟨c, l1, l2, e1, e2, e3⟩ : ∃ c l1 l2, cs = l1 ++ c :: l2 ∧ fitsC S c = false ∧ ∀ d ∈ l1, fitsC S d = true := by
      cases hfi : cs.find? (fun c => !fitsC S c) with
      | none =>
        refine absurd (List.all_eq_true.mpr fun c hc => ?_) hf
        simpa using List.find?_eq_none.mp hfi c hc
      | some c =>
        obtain ⟨hp, l1, l2, e1, e3⟩ := List.find?_eq_some_iff_append.mp hfi
        exact ⟨c, l1, l2, e1, by simpa using hp, fun d hd => by simpa using e3 d hd⟩
    have hlen : l1.length < cs.length := by rw [e1]; simp
    have hat : cs[l1.length]? = some c := by rw [e1]; simp
    have hbe : ∀ i, i < l1.length → ∀ d, cs[i]? = some d → fitsC S d = true := fun i hi d hd => by
      rw [e1, List.getElem?_append_left hi] at hd
      exact e3 d (List.mem_of_getElem? hd)
    refine ⟨.rt (dat K (.bool (fitsL cs S))) (sb c), b_ret (s_forM (vs := [2]) (i_tupT (xs := cs) (f := clD) (d_var 0)) (pg_name (i := 2) nd rfl (.inl rfl)) l1.length (fun _ => st) (fun i => st.set 2 (.per (dat K ((cs[i]?.map clD).getD .none)))) (Sub.refl _) ?ht2 (by rw [List.length_map]; omega) ?body2 (.inr ⟨by rw [List.length_map]; exact hlen, _, _, rfl, ?last⟩)), .inl ⟨_, rfl⟩⟩
    case ht2 =>
      intro i r h
      obtain ⟨c, hc, _, rfl⟩ := get_map h
      try dsimp only
      rw [hc]
      exact tg_name (by decide)
    case body2 =>
      intro i r hi h
      obtain ⟨c, hc, hm, rfl⟩ := get_map h
      try dsimp only
      rw [hc]
      have h1 : fitsC S c = true := hbe i hi c hc
      refine ⟨sb c, b_no (t_cmp (op_eqP hu) (opd_eqP (pl_of _) (plT (α := List Str) []) ((fits_eq S c).trans (by rw [h1]; rfl))) (d_lcT (own := [("_law_name", 3), ("_law_truth", 4)]) ⟨i_listT (xs := [(litsOf c).1, (litsOf c).2]) (f := litD) (ρ1 := sb c) (d_callT T.law_literals (ok_lliterals T) c trivial hr (a_cons (d_var 2) a_nil)), blkOk_by (N := ["_law_clauses_here", "_law_names_here", "_law_clause", "_law_name", "_law_truth"]) (sc := defScope s_law_fits) (by decide +kernel),
          (fun _ _ _ _ _ => pg_tup rfl (pgs_cons (pg_name (i := 3) nd rfl (.inl rfl)) (pgs_cons (pg_name (i := 4) nd rfl (.inl rfl)) pgs_nil))), NoAt.cons rfl (NoAt.cons rfl NoAt.nil), fun l _ => tg_two (ρ := sb c) (d1 := .str l.1) (d2 := .bool l.2) (by decide) (by decide), fun l _ => (Sub.unset (ρ := (sb c).set 3 _) (j := 4) rfl).trans (Sub.unset rfl),
          fun l _ _ _ _ _ _ => ts_one (t_cmp op_eq (opd_eqB rfl) (d_cmp op_in_seq (opd_inL (x := l.1) (xs := S) rfl) (d_var 3) (d_var 1)) (d_var 4)), fun l _ _ _ _ _ _ _ => d_var 3, by show 2 ≤ 1000000; decide⟩) (d_lst (ds := []) a_nil)) b_nil, Sub.unset rfl⟩
    case last =>
      try dsimp only
      rw [hat]
      exact b_one (s_if (k := true) (t_cmp (op_eqP hu) (opd_eqP (pl_of _) (plT (α := List Str) []) ((fits_eq S c).trans (by rw [e2]; rfl))) (d_lcT (own := [("_law_name", 3), ("_law_truth", 4)]) ⟨i_listT (xs := [(litsOf c).1, (litsOf c).2]) (f := litD) (ρ1 := sb c) (d_callT T.law_literals (ok_lliterals T) c trivial hr (a_cons (d_var 2) a_nil)), blkOk_by (N := ["_law_clauses_here", "_law_names_here", "_law_clause", "_law_name", "_law_truth"]) (sc := defScope s_law_fits) (by decide +kernel),
          (fun _ _ _ _ _ => pg_tup rfl (pgs_cons (pg_name (i := 3) nd rfl (.inl rfl)) (pgs_cons (pg_name (i := 4) nd rfl (.inl rfl)) pgs_nil))), NoAt.cons rfl (NoAt.cons rfl NoAt.nil), fun l _ => tg_two (ρ := sb c) (d1 := .str l.1) (d2 := .bool l.2) (by decide) (by decide), fun l _ => (Sub.unset (ρ := (sb c).set 3 _) (j := 4) rfl).trans (Sub.unset rfl),
          fun l _ _ _ _ _ _ => ts_one (t_cmp op_eq (opd_eqB rfl) (d_cmp op_in_seq (opd_inL (x := l.1) (xs := S) rfl) (d_var 3) (d_var 1)) (d_var 4)), fun l _ _ _ _ _ _ _ => d_var 3, by show 2 ≤ 1000000; decide⟩) (d_lst (ds := []) a_nil)) (fun _ => b_ret (s_ret (d_eq d_bl (by rw [hf'])))) (fun z => nomatch z))
where
  pl_of : ∀ (xs : List Lt), Pl (.list (xs.map fun l => PyData.str l.1)) := fun xs => by
    have e : (xs.map fun l => PyData.str l.1) = (xs.map (·.1)).map PyData.str := by rw [List.map_map]; rfl
    rw [e]
    exact plT (α := List Str) _
/-! ### the next literals -/
abbrev sp_lnext (K : PySem.W.Frag) : Sp := spI (ι := Gm × Lt) (fun i => GmOk i.1) (fun i => [dat K (gmD i.1), dat K (litD i.2)]) (fun i => dat K (.list ((succ i.1 i.2).map litD)))
theorem ok_lnext (T : Txt K mg) : FnOk P w K mg base CX0 2 T.law_next_literals.a T.law_next_literals.d ["_law_grammar_here", "_law_literal"] (sp_lnext K) := by
  have nd := sc_law_next_literals.nd
  refine fn_pure T.law_next_literals.F sc_law_next_literals (fun _ => rfl) (fun cdv A outer s H E i hr hg => ?_)
  obtain ⟨g, l⟩ := i
  dsimp only at hg
  have hu := hr.units
  have h128 := hu128 hr
  have few := hg.few
  let fn : Nat → List Lt := fun i => (g.cls.take i).flatMap (tg1 l)
  let st : List Lt → Rho := fun ks => [.per (dat K (gmD g)), .per (dat K (litD l)), .own (lstO K (ks.map litD)), .no, .no, .no]
  have tg_len : ∀ c, (tg1 l c).length ≤ 2 := fun c => by
    unfold tg1
    split <;> split <;> simp
  have fn_len : ∀ cs : List Cl, (cs.flatMap (tg1 l)).length ≤ 2 * cs.length := by
    intro cs
    induction cs with
    | nil => exact Nat.le_refl _
    | cons c cs ih =>
      rw [List.flatMap_cons, List.length_append, List.length_cons]
      have := tg_len c
      omega
  refine ⟨.rt (dat K (.list ((succ g l).map litD))) ((st (tgts g l)).set 2 (.per (dat K (.list ((tgts g l).map litD))))), b_cons (s_new 2 (n_lst (ds := []) a_nil))
    (b_cons (s_for (vs := [3]) (i_tupT (xs := g.cls) (f := clD) (d_ix ix_tup (opd_ixT (ds := [.tuple (g.ops.map opD), .tuple [.int g.lo, .int g.hi], .tuple (g.cls.map clD)]) (d := .tuple (g.cls.map clD)) rfl) (d_var 0) d_int)) (pg_name (i := 3) nd rfl (.inl rfl)) (fun i => st (fn i)) (fun i => (st (fn i)).set 3 (.per (dat K ((g.cls[i]?.map clD).getD .none)))) (Sub.refl _) ?ht ?body)
    (b_pre (ρ1 := st (tgts g l)) (b_ret (s_ret (e_share 2 sh_lst (d_sortSetL (ks := tgts g l) (dd := dd (tgts g l)) h128 T.z_sorted (d_setL hu T.z_set (d_var 2) ?few) (dd_nodup _) (fun k => dd_mem) ?few2)))) ?pre)), .inl ⟨_, rfl⟩⟩
  case few => have := fn_len g.cls; show (g.cls.flatMap (tg1 l)).length < 64; omega
  case few2 => have := fn_len g.cls; have := dd_len (tgts g l); have : (tgts g l).length ≤ 14 := by (show (g.cls.flatMap (tg1 l)).length ≤ 14); omega
               omega
  case pre =>
    have e : fn (g.cls.map clD).length = tgts g l := by show (g.cls.take (g.cls.map clD).length).flatMap (tg1 l) = _; rw [List.length_map, List.take_length]; rfl
    have e2 : (g.cls.map fun a => dat K (clD a)).length = (g.cls.map clD).length := by rw [List.length_map, List.length_map]
    show Sub (st (fn (g.cls.map fun a => dat K (clD a)).length)) _
    rw [e2, e]
    exact Sub.refl _
  case ht =>
    intro i r h
    obtain ⟨c, hc, _, rfl⟩ := get_map h
    try dsimp only
    rw [hc]
    exact tg_name (by decide)
  case body =>
    intro i r h
    obtain ⟨c, hc, hm, rfl⟩ := get_map h
    try dsimp only
    rw [hc]
    have hi := (List.getElem?_eq_some_iff.mp hc).1
    have e1 : fn (i + 1) = fn i ++ tg1 l c := by
      show (g.cls.take (i + 1)).flatMap (tg1 l) = _
      rw [take_snoc hc, List.flatMap_append]
      simp [fn]
    have hl1 : (fn i).length ≤ 14 := by have := fn_len (g.cls.take i); rw [List.length_take] at this; show ((g.cls.take i).flatMap (tg1 l)).length ≤ 14; omega
    let k1 : List Lt := fn i ++ if neg (litsOf c).1 = l then [(litsOf c).2] else []
    let k2 : List Lt := k1 ++ if neg (litsOf c).2 = l then [(litsOf c).1] else []
    have e2 : fn (i + 1) = k2 := by rw [e1]; show _ = (fn i ++ _) ++ _; rw [List.append_assoc]; rfl
    have hl2 : k1.length ≤ 15 := by
      show (fn i ++ if neg (litsOf c).1 = l then [(litsOf c).2] else []).length ≤ 15
      rw [List.length_append]
      split
      · show _ + 1 ≤ 15; omega
      · show _ + 0 ≤ 15; omega
    let sc : List Lt → Rho := fun ks => [.per (dat K (gmD g)), .per (dat K (litD l)), .own (lstO K (ks.map litD)), .per (dat K (clD c)), .per (dat K (litD (litsOf c).1)), .per (dat K (litD (litsOf c).2))]
    have neq : ∀ k : Lt, Opd (rEqP K false) (dat K (litD l)) (dat K (.tuple [.str k.1, .bool (!k.2)])) (dat K (.bool (decide (l = neg k)))) := fun k => opd_eqT (α := Lt) (x := l) (y := neg k) rfl
    refine ⟨sc k2, b_cons (s_asg (vs := [4, 5]) (d_callT T.law_literals (ok_lliterals T) c trivial hr (a_cons (d_var 3) a_nil)) (pg_lst rfl (pgs_cons (pg_name (i := 4) nd rfl (.inl rfl)) (pgs_cons (pg_name (i := 5) nd rfl (.inl rfl)) pgs_nil))) (tgl_two (by decide) (by decide)))
      (b_cons (s_if (o := .nx (sc k1)) (k := decide (l = neg (litsOf c).1)) (t_cmp (op_eqP hu) (neq (litsOf c).1) (d_var 1) (d_tup (ds := [_, _]) (a_cons (d_ix ix_tup (opd_ixT (ds := [.str (litsOf c).1.1, .bool (litsOf c).1.2]) (d := .str (litsOf c).1.1) rfl) (d_var 4) d_int) (a_cons (d_not (d_ix ix_tup (opd_ixT (ds := [.str (litsOf c).1.1, .bool (litsOf c).1.2]) (d := .bool (litsOf c).1.2) rfl) (d_var 4) d_int)) a_nil)))) (fun h => ?y1) (fun h => ?n1))
      (b_one (s_if (o := .nx (sc k2)) (k := decide (l = neg (litsOf c).2)) (t_cmp (op_eqP hu) (neq (litsOf c).2) (d_var 1) (d_tup (ds := [_, _]) (a_cons (d_ix ix_tup (opd_ixT (ds := [.str (litsOf c).2.1, .bool (litsOf c).2.2]) (d := .str (litsOf c).2.1) rfl) (d_var 5) d_int) (a_cons (d_not (d_ix ix_tup (opd_ixT (ds := [.str (litsOf c).2.1, .bool (litsOf c).2.2]) (d := .bool (litsOf c).2.2) rfl) (d_var 5) d_int)) a_nil)))) (fun h => ?y2) (fun h => ?n2)))), ?sub⟩
    case y1 =>
      have ek : k1 = fn i ++ [(litsOf c).2] := by show fn i ++ _ = _; rw [if_pos (of_decide_eq_true h).symm]
      rw [ek]
      show PSs _ _ (tS _ (.nx [_, _, .own (lstO K ((fn i ++ [(litsOf c).2]).map litD)), _, _, _]))
      rw [List.map_append]
      exact b_one (s_expr (d_app 2 (d_var 5) (by rw [List.length_map]; omega)))
    case n1 =>
      have ek : k1 = fn i := by show fn i ++ _ = _; rw [if_neg fun z => of_decide_eq_false h z.symm, List.append_nil]
      rw [ek]
      exact b_nil
    case y2 =>
      have ek : k2 = k1 ++ [(litsOf c).1] := by show k1 ++ _ = _; rw [if_pos (of_decide_eq_true h).symm]
      rw [ek]
      show PSs _ _ (tS _ (.nx [_, _, .own (lstO K ((k1 ++ [(litsOf c).1]).map litD)), _, _, _]))
      rw [List.map_append]
      exact b_one (s_expr (d_app 2 (d_var 4) (by rw [List.length_map]; omega)))
    case n2 =>
      have ek : k2 = k1 := by show k1 ++ _ = _; rw [if_neg fun z => of_decide_eq_false h z.symm, List.append_nil]
      rw [ek]
      exact b_nil
    case sub =>
      rw [e2]
      exact Sub.cons (Sub.cons (Sub.cons (Sub.drop (Sub.drop (Sub.drop Sub.nil)))))
end
end Fc
/-! FcLf: _law_chains. -/
namespace Fc
open PySem PySem.W PySem.Spec PyProof.Rows L2
def chD' (c : List Lt) : PyData := .list (c.map litD)
def cD (D : List (Lt × List Lt)) : List (Lt × PyData) := D.map fun p => (p.1, chD' p.2)
theorem cD_keys (D : List (Lt × List Lt)) : (cD D).map (·.1) = D.map (·.1) := by unfold cD; rw [List.map_map]; rfl
theorem cD_val (D : List (Lt × List Lt)) (k : Lt) : valD (cD D) k = (getC D k).map chD' := by
  unfold getC
  induction D with
  | nil => rfl
  | cons p D ih =>
    have ih' : valD (cD D) k = ((D.find? fun p => decide (p.1 = k)).map (·.2)).map chD' := ih
    show valD ((p.1, chD' p.2) :: cD D) k = _
    rw [valD_cons, List.find?_cons]
    by_cases h : p.1 = k
    · rw [if_pos h, decide_eq_true h]; rfl
    · rw [if_neg h, decide_eq_false h]; exact ih'
theorem cD_in (D : List (Lt × List Lt)) (k : Lt) : (valD (cD D) k).isSome = decide (k ∈ D.map (·.1)) := by
  by_cases h : k ∈ D.map (·.1)
  · rw [decide_eq_true h, valD_isSome.mpr (by rw [cD_keys]; exact h)]
  · rw [decide_eq_false h, valD_none.mpr (by rw [cD_keys]; exact h)]; rfl
theorem cD_new {D : List (Lt × List Lt)} {k : Lt} (c : List Lt) (h : k ∉ D.map (·.1)) : putD (cD D) k (chD' c) = cD (D ++ [(k, c)]) := by
  rw [putD_new _ (valD_none.mpr (by rw [cD_keys]; exact h))]
  unfold cD
  rw [List.map_append]
  rfl
structure MInv (g : Gm) (s : CSt) : Prop where
  nd : (s.1.map (·.1)).Nodup
  nm : ∀ k ∈ s.1.map (·.1), k.1 ∈ g.names
  few : s.2.length ≤ s.1.length
theorem MInv.le {g : Gm} {s : CSt} (h : MInv g s) : s.1.length ≤ 2 * g.ops.length := by
  have := nodup_le h.nd (m := lits g) fun l hl => lits_mem.mpr (h.nm l hl)
  rw [List.length_map, lits_len] at this
  exact this
theorem insC_inv {g : Gm} {s : CSt} {c : List Lt} (h : MInv g s) (hc : (lastL c).1 ∈ g.names) : MInv g (insC s c) := by
  unfold insC
  split
  · exact h
  · rename_i hn
    refine ⟨?_, fun k hk => ?_, ?_⟩
    · show ((s.1 ++ [(lastL c, c)]).map (·.1)).Nodup
      rw [List.map_append]
      exact List.nodup_append.mpr ⟨h.nd, by simp, fun a ha b hb z => hn (by
        have : b = lastL c := by simpa using hb
        rw [← this, ← z]
        exact ha)⟩
    · have hk' : k ∈ (s.1 ++ [(lastL c, c)]).map (·.1) := hk
      rw [List.map_append, List.mem_append] at hk'
      rcases hk' with hk' | hk'
      · exact h.nm k hk'
      · have : k = lastL c := by simpa using hk'
        rw [this]; exact hc
    · show (s.2 ++ [c]).length ≤ (s.1 ++ [(lastL c, c)]).length
      have := h.few
      rw [List.length_append, List.length_append]
      show _ + 1 ≤ _ + 1
      omega
theorem foldC_inv {g : Gm} : ∀ (xs : List (List Lt)) {s : CSt}, MInv g s → (∀ c ∈ xs, (lastL c).1 ∈ g.names) → MInv g (xs.foldl insC s)
  | [], _, h, _ => h
  | x :: xs, s, h, hx => foldC_inv xs (insC_inv h (hx x List.mem_cons_self)) fun c hc => hx c (List.mem_cons_of_mem _ hc)
theorem CInv.mid {g : Gm} (hg : GmOk g) {a : Lt} (ha : a.1 ∈ g.names) {n : Nat} {s : CSt} (h : CInv g a n s) : MInv g (s.1, []) := ⟨h.nd, fun k hk => by
  obtain ⟨p, hp, rfl⟩ := List.mem_map.mp hk
  obtain ⟨m, _, h2, _⟩ := h.val p hp
  exact h2.1.names hg ha, Nat.zero_le _⟩
theorem longer_app (g : Gm) (c : List Lt) (xs : List (List Lt)) : (xs ++ [c]).flatMap (fun c => (succ g (lastL c)).map fun l => c ++ [l]) = xs.flatMap (fun c => (succ g (lastL c)).map fun l => c ++ [l]) ++ (succ g (lastL c)).map fun l => c ++ [l] := by
  rw [List.flatMap_append, List.flatMap_singleton]
section
variable {P : Program} {w : World} {K : PySem.W.Frag} {mg : Str → Option Value} {base : Heap}
abbrev sp_lchains (P : Program) (w : World) (K : PySem.W.Frag) : Sp := spI (ι := Gm × Lt) (fun i => GmOk i.1 ∧ i.2.1 ∈ i.1.names) (fun i => [dat K (gmD i.1), dat K (litD i.2)]) (fun i => ldR P w K (cD (chainsF i.1 i.2)))
theorem ok_lchains (T : Txt K mg) : FnOk P w K mg base CX0 3 T.law_chains.a T.law_chains.d ["_law_grammar_here", "_law_start"] (sp_lchains P w K) := by
  have nd := sc_law_chains.nd
  refine fn_pure T.law_chains.F sc_law_chains (fun _ => rfl) (fun cdv A outer s H E i hr hi => ?_)
  obtain ⟨g, a⟩ := i
  obtain ⟨hg, ha⟩ := hi
  dsimp only at hg ha
  have hu := hu_of hr
  have hu64 := hr.units
  have h128 := hu128 hr
  have hlen : 1 ≤ g.ops.length ∧ g.ops.length ≤ 5 := GmOk.len hg
  let s0 : CSt := ([(a, [a])], [[a]])
  let S : Nat → CSt := fun i => itr (turnC g) i s0
  have inv : ∀ i, CInv g a i (S i) := fun i => CInv.itr i
  have hL : ∀ i, (S i).2.length ≤ (S i).1.length := by
    intro i
    cases i with
    | zero => exact Nat.le_refl _
    | succ i =>
      refine (foldC_inv (g := g) (longer g (S i).2) ((inv i).mid hg ha) fun c hc => ?_).few
      obtain ⟨c0, _, l, k2, rfl⟩ := longer_mem.mp hc
      rw [lastL_snoc]
      exact succ_names hg k2
  let st : CSt → Rho := fun s => [.per (dat K (gmD g)), .per (dat K (litD a)), .own (ldO P w K (cD s.1)), .per (dat K (.list (s.2.map chD'))), .no, .no, .no, .no]
  let so : List (List Lt) → CSt → Rho := fun L s => [.per (dat K (gmD g)), .per (dat K (litD a)), .own (ldO P w K (cD s.1)), .per (dat K (.list (L.map chD'))), .no, .own (lstO K (s.2.map chD')), .no, .no]
  refine ⟨.rt (ldR P w K (cD (chainsF g a))) ((st (S (2 * g.ops.length))).set 2 (.per (ldR P w K (cD (chainsF g a))))),
    b_cons (s_parOP 2 3 n_ld0 (d_lst (ds := [.list [litD a]]) (a_cons (d_lst (ds := [litD a]) (a_cons (d_var 1) a_nil)) a_nil)))
    (b_cons (s_put 2 (ps_ld hu) (opdP_ld (kvs := []) (by decide)) (d_lst (ds := [litD a]) (a_cons (d_var 1) a_nil)) (d_var 1))
    (b_cons (s_for (vs := [4]) (i_range (n := 2 * (g.ops.length : Int)) T.z_range (a_cons (d_bin op_mul (opd_I (.inl ⟨by decide, by decide⟩)) d_int (d_eq (d_lenT (ds := g.ops.map opD) T.z_len (d_ix ix_tup (opd_ixT (ds := [.tuple (g.ops.map opD), .tuple [.int g.lo, .int g.hi], .tuple (g.cls.map clD)]) (d := .tuple (g.ops.map opD)) rfl) (d_var 0) d_int)) (by rw [List.length_map]))) a_nil) (by omega)) (pg_name (i := 4) nd rfl (.inl rfl)) (fun i => st (S i)) (fun i => (st (S i)).set 4 (.per (dat K (.int (i : Int))))) (Sub.refl _) ?ht ?body)
    (b_pre (ρ1 := st (S (2 * g.ops.length))) (b_share 2 (sh_ld P w K) (b_ret (s_ret (d_var 2)))) ?pre))), .inl ⟨_, rfl⟩⟩
  case pre =>
    rw [rangeR_len, show (2 * (g.ops.length : Int)).toNat = 2 * g.ops.length by omega]
    exact Sub.refl _
  case ht =>
    intro i r h
    obtain ⟨hi, rfl⟩ := rng_get h
    exact tg_name (by decide)
  case body =>
    intro i r h
    obtain ⟨hi, rfl⟩ := rng_get h
    have hi2 : i < 2 * g.ops.length := by omega
    have iv := inv i
    have lvl := hL i
    show ∃ ρ', PSs _ _ (tS ((st (S i)).set 4 _) (.nx ρ')) ∧ Sub ρ' (st (turnC g (S i)))
    generalize S i = q0 at iv lvl ⊢
    have lv : ∀ c ∈ q0.2, ∃ l, Dst g i a l ∧ c = chD g l i a := fun c hc => (iv.lev c).mp hc
    have hlast : ∀ c ∈ q0.2, c.length = i + 1 ∧ (lastL c).1 ∈ g.names ∧ c[i]? = some (lastL c) := fun c hc => by
      obtain ⟨l, hd, e⟩ := lv c hc
      have wk := chD_wk hd
      rw [← e] at wk
      rw [wk.lastL]
      exact ⟨wk.len, hd.1.names hg ha, wk.last⟩
    have nml : ∀ xs : List (List Lt), (∀ c ∈ xs, c ∈ q0.2) → ∀ d ∈ xs.flatMap (fun c => (succ g (lastL c)).map fun l => c ++ [l]), (lastL d).1 ∈ g.names := fun xs _ d hd => by
      obtain ⟨c, _, hc⟩ := List.mem_flatMap.mp hd
      obtain ⟨l, hl, rfl⟩ := List.mem_map.mp hc
      rw [lastL_snoc]
      exact succ_names hg hl
    let Ls := sortT q0.2
    have hLs : ∀ c ∈ Ls, c ∈ q0.2 := fun c hc => sortT_mem.mp hc
    let Fo : Nat → CSt := fun j => ((Ls.take j).flatMap fun c => (succ g (lastL c)).map fun l => c ++ [l]).foldl insC (q0.1, [])
    have io : ∀ j, MInv g (Fo j) := fun j => foldC_inv _ (iv.mid hg ha) (nml _ fun c hc => hLs c (List.take_subset _ _ hc))
    have eo : Fo Ls.length = turnC g q0 := by
      show ((Ls.take Ls.length).flatMap _).foldl insC (q0.1, []) = _
      rw [List.take_length]
      rfl
    have hLn : q0.2.length ≤ 1000000 := by
      have h1 := (iv.mid hg ha).le
      have h2 : q0.1.length ≤ 2 * g.ops.length := h1
      omega
    refine ⟨[.per (dat K (gmD g)), .per (dat K (litD a)), .own (ldO P w K (cD (turnC g q0).1)), .per (dat K (.list ((turnC g q0).2.map chD'))), .no, .per (dat K (.list ((turnC g q0).2.map chD'))), .no, .no],
      b_cons (s_new 5 (n_lst (ds := []) a_nil)) (b_cons (s_for (vs := [6]) (ρ0 := ((st q0).set 4 (.per (dat K (.int (i : Int))))).set 5 (.own (lstO K []))) (i_listT (xs := Ls) (f := chD') (d_sorted (α := List Lt) (xs := q0.2) h128 T.z_sorted (d_var 3) hLn)) (pg_name (i := 6) nd rfl (.inl rfl)) (fun j => so q0.2 (Fo j)) (fun j => (so q0.2 (Fo j)).set 6 (.per (dat K ((Ls[j]?.map chD').getD .none)))) ?s0 ?ht1 ?outer) ?last), ?sub⟩
    case s0 => exact Sub.cons (Sub.cons (Sub.cons (Sub.cons (Sub.drop (Sub.cons (Sub.cons (Sub.cons Sub.nil)))))))
    case sub => exact Sub.cons (Sub.cons (Sub.cons (Sub.cons (Sub.cons (Sub.drop (Sub.cons (Sub.cons Sub.nil)))))))
    case last =>
      rw [List.length_map]
      show PSs _ _ (tS (so q0.2 (Fo Ls.length)) _)
      rw [eo]
      exact b_share 5 sh_lst (b_one (s_set 3 (d_var 5)))
    case ht1 =>
      intro j r h
      obtain ⟨l, hl, _, rfl⟩ := get_map h
      try dsimp only
      rw [hl]
      exact tg_name (by decide)
    case outer =>
      intro j r h
      obtain ⟨c, hc, hcm, rfl⟩ := get_map h
      try dsimp only
      rw [hc]
      obtain ⟨c1, c2, c3⟩ := hlast c (hLs c hcm)
      let Fi : Nat → CSt := fun k => (((succ g (lastL c)).take k).map fun l => c ++ [l]).foldl insC (Fo j)
      have ii : ∀ k, MInv g (Fi k) := fun k => foldC_inv _ (io j) fun d hd => by
        obtain ⟨l, hl, rfl⟩ := List.mem_map.mp hd
        rw [lastL_snoc]
        exact succ_names hg (List.mem_of_mem_take hl)
      have ei : Fi (succ g (lastL c)).length = Fo (j + 1) := by
        show (((succ g (lastL c)).take _).map _).foldl insC (Fo j) = ((Ls.take (j + 1)).flatMap _).foldl insC (q0.1, [])
        rw [List.take_length, take_snoc hc, longer_app, List.foldl_append]
      refine ⟨(so q0.2 (Fo (j + 1))).set 6 (.per (dat K (chD' c))), b_one ?_, Sub.unset rfl⟩
      rw [← ei, show (succ g (lastL c)).length = ((succ g (lastL c)).map fun l => dat K (litD l)).length by rw [List.length_map]]
      refine s_for (vs := [7]) (i_listT (xs := succ g (lastL c)) (f := litD) (d_callT T.law_next_literals (ok_lnext T) (g, lastL c) hg hr (a_cons (d_var 0) (a_cons (d_ix ix_list (opd_ixL (ds := c.map litD) (d := litD (lastL c)) (atI_last (n := i) (by rw [List.length_map]; exact c1) (by rw [List.getElem?_map, c3]; rfl))) (d_var 6) (d_un un_neg (und_neg (i := 1)) d_int)) a_nil)))) (pg_name (i := 7) nd rfl (.inl rfl)) (fun k => (so q0.2 (Fi k)).set 6 (.per (dat K (chD' c)))) (fun k => ((so q0.2 (Fi k)).set 6 (.per (dat K (chD' c)))).set 7 (.per (dat K (((succ g (lastL c))[k]?.map litD).getD .none)))) (Sub.refl _) ?ht2 ?inner
      case ht2 =>
        intro k r h
        obtain ⟨l, hl, _, rfl⟩ := get_map h
        try dsimp only
        rw [hl]
        exact tg_name (by decide)
      case inner =>
        intro k r h
        obtain ⟨l, hl, _, rfl⟩ := get_map h
        try dsimp only
        rw [hl]
        have ej : Fi (k + 1) = insC (Fi k) (c ++ [l]) := by
          show (((succ g (lastL c)).take (k + 1)).map _).foldl insC (Fo j) = insC ((((succ g (lastL c)).take k).map _).foldl insC (Fo j)) _
          rw [take_snoc hl, List.map_append, List.foldl_append]
          rfl
        rw [ej]
        have ij := ii k
        generalize Fi k = q at ij ⊢
        have hz1 := ij.le
        have hz2 := ij.few
        have hz : (cD q.1).length < 1000000 := by unfold cD; rw [List.length_map]; omega
        have hz' : (q.2.map chD').length < 1000000 := by rw [List.length_map]; omega
        have hcat : (c.map litD).length + [litD l].length ≤ 1000000 := by rw [List.length_map]; show _ + 1 ≤ _; omega
        refine ⟨((so q0.2 (insC q (c ++ [l]))).set 6 (.per (dat K (chD' c)))).set 7 (.per (dat K (litD l))), b_one (s_if (k := !decide (l ∈ q.1.map (·.1))) (t_cmpR 2 (op_ldNotIn hu) (opdR_ldIn (neg := true) (by rw [cD_in]; rfl)) (d_var 7)) (fun hk => ?yes) (fun hk => ?no)), Sub.unset rfl⟩
        case yes =>
          have hn : l ∉ q.1.map (·.1) := by simpa using hk
          have e1 : insC q (c ++ [l]) = (q.1 ++ [(l, c ++ [l])], q.2 ++ [c ++ [l]]) := by
            unfold insC
            rw [lastL_snoc, if_neg hn]
          have e0 : chD' (c ++ [l]) = .list (c.map litD ++ [litD l]) := by unfold chD'; rw [List.map_append]; rfl
          rw [e1]
          have e2 : so q0.2 (q.1 ++ [(l, c ++ [l])], q.2 ++ [c ++ [l]]) = [.per (dat K (gmD g)), .per (dat K (litD a)), .own (ldO P w K (putD (cD q.1) l (chD' (c ++ [l])))), .per (dat K (.list (q0.2.map chD'))), .no, .own (lstO K (q.2.map chD' ++ [chD' (c ++ [l])])), .no, .no] := by
            show [_, _, Sl.own (ldO P w K (cD (q.1 ++ [(l, c ++ [l])]))), _, _, Sl.own (lstO K ((q.2 ++ [c ++ [l]]).map chD')), _, _] = _
            rw [← cD_new _ hn, List.map_append]
            rfl
          rw [e2]
          have hv : valD (putD (cD q.1) l (chD' (c ++ [l]))) l = some (chD' (c ++ [l])) := by rw [valD_put, if_pos rfl]
          exact b_cons (s_put 2 (ps_ld hu) (opdP_ld hz) (d_eq (d_bin op_catQ (opd_cat' hcat) (d_var 6) (d_lst (ds := [litD l]) (a_cons (d_var 7) a_nil))) e0.symm) (d_var 7)) (b_one (s_expr (d_app 5 (d_ixO 2 (ix_ld hu) (opdO_ldGet hv) (d_var 7)) hz')))
        case no =>
          have hn : l ∈ q.1.map (·.1) := by simpa using hk
          have e1 : insC q (c ++ [l]) = q := by
            unfold insC
            rw [lastL_snoc, if_pos hn]
          rw [e1]
          exact b_nil
end
end Fc
/-! FcLg: _law_best, _law_contrary. -/
namespace Fc
open PySem PySem.W PySem.Spec PyProof.Rows L2
theorem csOf_app (xs ys : List (Option (List Lt))) : csOf (xs ++ ys) = csOf xs ++ csOf ys := by unfold csOf; rw [List.filterMap_append, List.map_append]
theorem prsC_take {g : Gm} {ss ts : List Lt} {i : Nat} {s : Lt} (h : ss[i]? = some s) : prsC g (ss.take (i + 1)) ts = prsC g (ss.take i) ts ++ ts.map fun t => bestC g s t := by
  unfold prsC
  rw [take_snoc h, List.flatMap_append, List.flatMap_singleton]
theorem keep_best {g : Gm} (s : Lt) (ts : List Lt) : PyData.list ((ts.filter fun t => (bestC g s t).isSome).map fun t => cdD (bestC g s t)) = .list ((csOf (ts.map fun t => bestC g s t)).map Datum.toD) := by
  rw [← csOf_eq, List.filter_map, List.map_map]
  rfl
theorem bestL_one {g : Gm} {a b : Lt} : bestL g [a] [b] = bestC g a b := by
  have e : prsC g [a] [b] = [bestC g a b] := rfl
  unfold bestL
  rw [e]
  cases h : bestC g a b with
  | none => exact pickC_no fun c hc => by simp at hc
  | some c =>
    refine pickC_of (by simp) fun c' hc' => ?_
    have : c' = c := by simpa using hc'
    rw [this]
    exact leT_refl _
section
variable {P : Program} {w : World} {K : PySem.W.Frag} {mg : Str → Option Value} {base : Heap}
abbrev sp_lbest (K : PySem.W.Frag) : Sp := spI (ι := Gm × List Lt × List Lt) (fun i => GmOk i.1 ∧ (∀ s ∈ i.2.1, s.1 ∈ i.1.names) ∧ i.2.1.length ≤ 100 ∧ i.2.2.length ≤ 100) (fun i => [dat K (gmD i.1), dat K (.list (i.2.1.map litD)), dat K (.list (i.2.2.map litD))]) (fun i => dat K (oD (bestL i.1 i.2.1 i.2.2)))
theorem ok_lbest (T : Txt K mg) : FnOk P w K mg base CX0 4 T.law_best.a T.law_best.d ["_law_grammar_here", "_law_starts", "_law_goals"] (sp_lbest K) := by
  have nd := sc_law_best.nd
  refine fn_pure T.law_best.F sc_law_best (fun _ => rfl) (fun cdv A outer s H E i hr hi => ?_)
  obtain ⟨g, ss, ts⟩ := i
  obtain ⟨hg, hs, hz1, hz2⟩ := hi
  dsimp only at hg hs hz1 hz2
  have hu := hu_of hr
  have hu64 := hr.units
  let cs : Nat → List CD := fun i => csOf (prsC g (ss.take i) ts)
  let st : List CD → Rho := fun cs => [.per (dat K (gmD g)), .per (dat K (.list (ss.map litD))), .per (dat K (.list (ts.map litD))), .per (dat K (.list (cs.map Datum.toD))), .no, .no, .no]
  have prs_len : ∀ xs : List Lt, (prsC g xs ts).length ≤ xs.length * ts.length := by
    intro xs
    induction xs with
    | nil => exact Nat.zero_le _
    | cons x xs ih =>
      show (((ts.map fun t => bestC g x t) ++ prsC g xs ts)).length ≤ _
      rw [List.length_append, List.length_map, List.length_cons, Nat.succ_mul]
      omega
  have cs_len : ∀ i, i ≤ ss.length → (cs i).length ≤ 10000 := fun i hi => by
    have h1 := csOf_len (prsC g (ss.take i) ts)
    have h2 := prs_len (ss.take i)
    have h3 : (ss.take i).length * ts.length ≤ 100 * 100 := Nat.mul_le_mul (by rw [List.length_take]; omega) hz2
    show (csOf (prsC g (ss.take i) ts)).length ≤ 10000
    omega
  let fin := csOf (prsC g ss ts)
  have efin : cs ss.length = fin := by show csOf (prsC g (ss.take ss.length) ts) = _; rw [List.take_length]
  have hne : (!PyData.eqv (.list (fin.map Datum.toD)) (.list [])) = !decide (fin = []) := by
    have h1 : PyData.eqv (.list (fin.map Datum.toD)) (.list []) = decide (fin = []) := Datum.eqv (α := List CD) fin []
    rw [h1]
  refine ⟨.rt (dat K (oD (bestL g ss ts))) (st fin), b_cons (s_set 3 (d_lst (ds := []) a_nil))
    (b_cons (s_for (vs := [4]) (i_listT (xs := ss) (f := litD) (d_var 1)) (pg_name (i := 4) nd rfl (.inl rfl)) (fun i => st (cs i)) (fun i => (st (cs i)).set 4 (.per (dat K ((ss[i]?.map litD).getD .none)))) (Sub.refl _) ?ht ?body)
    (b_pre (ρ1 := st fin) (b_ret (s_ret (d_if (k := !decide (fin = [])) (t_cmp (op_neP hu64) (opd_neP (plT (α := List CD) fin) (plT (α := List CD) []) hne) (d_var 3) (d_lst (ds := []) a_nil)) (fun h => ?yes) (fun h => ?no)))) ?pre)), .inl ⟨_, rfl⟩⟩
  case pre =>
    rw [List.length_map, efin]
    exact Sub.refl _
  case no =>
    have e : fin = [] := by simpa using h
    exact d_eq d_non (by rw [bestL, pickC_nil e]; rfl)
  case yes =>
    have e : ¬ fin = [] := by simpa using h
    obtain ⟨x, xs, ex⟩ : ∃ x xs, fin = x :: xs := by
      cases hf : fin with
      | nil => exact absurd hf e
      | cons x xs => exact ⟨x, xs, rfl⟩
    have e2 : bestL g ss ts = some (minOf x xs).2 := pickC_min ex
    rw [ex, e2]
    exact d_ix ix_tup (opd_ixT (ds := [.int (minOf x xs).1, .list ((minOf x xs).2.map litD)]) (d := .list ((minOf x xs).2.map litD)) rfl) (d_callB (cr_minT (α := CD) (by decide) rfl hu64) (cld_min (α := CD) (a := x) (as := xs)) rfl T.z_min boot_min' (a_cons (d_var 3) a_nil) (by decide) (by decide) rfl) d_int
  case ht =>
    intro i r h
    obtain ⟨l, hl, _, rfl⟩ := get_map h
    try dsimp only
    rw [hl]
    exact tg_name (by decide)
  case body =>
    intro i r h
    obtain ⟨l, hl, hm, rfl⟩ := get_map h
    try dsimp only
    rw [hl]
    have hln := hs l hm
    have hi := (List.getElem?_eq_some_iff.mp hl).1
    have e1 : (cs (i + 1)).map Datum.toD = (cs i).map Datum.toD ++ (csOf (ts.map fun t => bestC g l t)).map Datum.toD := by
      show (csOf (prsC g (ss.take (i + 1)) ts)).map _ = _
      rw [prsC_take hl, csOf_app, List.map_append]
    let sc : Rho := ((st (cs i)).set 4 (.per (dat K (litD l)))).set 5 (.per (ldR P w K (cD (chainsF g l))))
    have hv : ∀ t, valD (cD (chainsF g l)) t = (bestC g l t).map chD' := fun t => by rw [cD_val, chainsF_get hg hln]
    have hcl : (csOf (ts.map fun t => bestC g l t)).length ≤ 100 := Nat.le_trans (csOf_len _) (by rw [List.length_map]; exact hz2)
    have hci := cs_len i (by omega)
    have hz : ((cs i).map Datum.toD).length + ((csOf (ts.map fun t => bestC g l t)).map Datum.toD).length ≤ 1000000 := by
      rw [List.length_map, List.length_map]
      omega
    refine ⟨sc.set 3 (.per (dat K (.list ((cs (i + 1)).map Datum.toD)))), b_cons (s_set 5 (d_callT T.law_chains (ok_lchains T) (g, l) ⟨hg, hln⟩ hr (a_cons (d_var 0) (a_cons (d_var 4) a_nil))))
      (b_one (s_set 3 (d_eq (d_bin op_catQ (opd_cat' hz) (d_var 3) (d_eq (d_lcT (lc_if ts (fun t => dat K (litD t)) (fun t => (bestC g l t).isSome) (fun t => cdD (bestC g l t)) 6 (i_listT (d_var 2)) (blkOk_by (N := ["_law_grammar_here", "_law_starts", "_law_goals", "_law_found", "_law_start", "_law_chains_here", "_law_goal"]) (sc := defScope s_law_best) (by decide +kernel)) (fun _ _ _ _ _ => pg_name (i := 6) nd rfl (.inl rfl)) rfl (by omega)
        (fun t ht _ _ _ _ _ => t_cmp (op_ldIn hu) (opd_ldIn (neg := false) (by rw [hv]; cases bestC g l t <;> rfl)) (d_var 6) (d_var 5))
        (fun t ht hk _ _ _ _ _ => ?elem))) (keep_best l ts))) (congrArg PyData.list e1.symm)))), ?sub⟩
    case sub => exact Sub.cons (Sub.cons (Sub.cons (Sub.cons (Sub.drop (Sub.drop (Sub.cons Sub.nil))))))
    case elem =>
      cases hb : bestC g l t with
      | none => rw [hb] at hk; cases hk
      | some c =>
        have hv' : valD (cD (chainsF g l)) t = some (chD' c) := by rw [hv, hb]; rfl
        exact d_eq (d_tup (ds := [.int (c.map litD).length, chD' c]) (a_cons (d_lenL (ds := c.map litD) T.z_len (d_ix (ix_ld hu) (opd_ldGet hv') (d_var 5) (d_var 6))) (a_cons (d_ix (ix_ld hu) (opd_ldGet hv') (d_var 5) (d_var 6)) a_nil))) (by rw [List.length_map]; rfl)
/-! ### _law_contrary -/
theorem none_in {a b : Option (List Lt)} : ([oD a, oD b].any fun z => PyData.eqv z .none) = !(a.isSome && b.isSome) := by
  have key : ∀ o : Option (List Lt), PyData.eqv (oD o) .none = !o.isSome := fun o => by cases o <;> simp [oD, PyData.eqv]
  show (PyData.eqv (oD a) .none || (PyData.eqv (oD b) .none || false)) = _
  rw [key, key]
  cases a.isSome <;> cases b.isSome <;> rfl
theorem pl_oD (o : Option (List Lt)) : Pl (oD o) := by
  cases o with
  | none => exact ⟨rfl, by simp [oD, PyData.depth]⟩
  | some c => exact plT (α := List Lt) c
end
end Fc
/-! FcLh: _law_contrary. -/
namespace Fc
open PySem PySem.W PySem.Spec PyProof.Rows L2
section
variable {P : Program} {w : World} {K : PySem.W.Frag} {mg : Str → Option Value} {base : Heap}
noncomputable def waysD (g : Gm) (n : Str) : List PyData := [oD (bestC g (n, false) (n, true)), oD (bestC g (n, true) (n, false))]
theorem pl_ways (a b : Option (List Lt)) : Pl (.list [oD a, oD b]) := by
  have key : ∀ o : Option (List Lt), (oD o).plain = true ∧ (oD o).depth ≤ 3 := fun o => by
    cases o with
    | none => exact ⟨rfl, by simp [oD, PyData.depth]⟩
    | some c => exact ⟨(plT (α := List Lt) c).1, Nat.le_trans (Datum.depth_le (α := List Lt) c) (by decide)⟩
  have ha := key a
  have hb := key b
  refine ⟨by simp [PyData.plain, PyData.plainAll, ha.1, hb.1], ?_⟩
  simp only [PyData.depth, PyData.depthAll]
  omega
abbrev sp_lcontrary (K : PySem.W.Frag) : Sp := spI (ι := Gm) GmOk (fun g => [dat K (gmD g), dat K (.list (g.names.map .str))]) (fun g => dat K (oD2 (findCon g)))
theorem ok_lcontrary (T : Txt K mg) : FnOk P w K mg base CX0 5 T.law_contrary.a T.law_contrary.d ["_law_grammar_here", "_law_names_here"] (sp_lcontrary K) := by
  have nd := sc_law_contrary.nd
  refine fn_pure T.law_contrary.F sc_law_contrary (fun _ => rfl) (fun cdv A outer s H E g hr hg => ?_)
  have hu := hu_of hr
  have hu64 := hr.units
  let X := cxD P w K mg base ["_law_grammar_here", "_law_names_here", "_law_name", "_law_ways", "_law_k"] ("_law_contrary" : Str) s_law_contrary T.law_contrary.a cdv A outer s H E
  let st : Rho := [.per (dat K (gmD g)), .per (dat K (.list (g.names.map .str))), .no, .no, .no]
  let sn : Str → Rho := fun n => st.set 2 (.per (dat K (.str n)))
  let sb : Str → Rho := fun n => (sn n).set 3 (.per (dat K (.list (waysD g n))))
  have best : ∀ (n : Str) (k : Bool), n ∈ g.names → bestL g [(n, k)] [(n, !k)] = bestC g (n, k) (n, !k) := fun n k _ => bestL_one
  have few : (2 : Nat) ≤ 1000000 := by decide
  rcases h : findCon g with _ | p
  · have hall : ∀ n ∈ g.names, conOf g n = none := List.findSome?_eq_none_iff.mp h
    refine ⟨.rt (dat K (oD2 none)) st, b_cons (s_for (vs := [2]) (i_listT (xs := g.names) (f := .str) (d_var 1)) (pg_name (i := 2) nd rfl (.inr rfl)) (fun _ => st) (fun i => st.set 2 (.per (dat K ((g.names[i]?.map .str).getD .none)))) (Sub.refl _) ?ht ?body) (b_ret (s_ret d_non)), .inl ⟨_, rfl⟩⟩
    case ht =>
      intro i r h
      obtain ⟨n, hn, _, rfl⟩ := get_map h
      try dsimp only
      rw [hn]
      exact tg_name (by decide)
    case body =>
      intro i r h
      obtain ⟨n, hn, hm, rfl⟩ := get_map h
      try dsimp only
      rw [hn]
      have hc : (conOf g n).isSome = false := by rw [hall n hm]; rfl
      rw [conOf_some] at hc
      refine ⟨sb n, b_cons (s_lcA 3 (lc_one [false, true] (fun k => dat K (.bool k)) (fun k => oD (bestC g (n, k) (n, !k))) 4 (i_tupT (xs := [false, true]) (f := .bool) (d_tup (ds := [.bool false, .bool true]) (a_cons d_bl (a_cons d_bl a_nil)))) (blkOk_by (N := ["_law_grammar_here", "_law_names_here", "_law_name", "_law_ways", "_law_k"]) (sc := defScope s_law_contrary) (by decide +kernel)) (fun _ _ _ _ _ => pg_name (i := 4) nd rfl (.inl rfl)) rfl few
          (fun k _ _ _ _ _ _ => d_eq (d_callT T.law_best (ok_lbest T) (g, [(n, k)], [(n, !k)]) ⟨hg, fun s hs => by rw [List.mem_singleton.mp hs]; exact hm, by show 1 ≤ 100; decide, by show 1 ≤ 100; decide⟩ hr (a_cons (d_var 0) (a_cons (d_lst (ds := [litD (n, k)]) (a_cons (d_tup (ds := [.str n, .bool k]) (a_cons (d_var 2) (a_cons (d_var 4) a_nil))) a_nil)) (a_cons (d_lst (ds := [litD (n, !k)]) (a_cons (d_tup (ds := [.str n, .bool (!k)]) (a_cons (d_var 2) (a_cons (d_not (d_var 4)) a_nil))) a_nil)) a_nil)))) (congrArg oD (best n k hm)))))
        (b_no (t_cmp (op_notInP hu64) (opd_notInP (d := .none) (ds := waysD g n) ⟨rfl, by simp [PyData.depth]⟩ (pl_ways _ _) (by rw [waysD, none_in, hc]; rfl)) d_non (d_var 3)) b_nil), ?sub⟩
      case sub => exact Sub.cons (Sub.cons (Sub.drop (Sub.drop (Sub.cons Sub.nil))))
  · obtain ⟨l1, n, l2, e1, e2, e3⟩ := List.findSome?_eq_some_iff.mp h
    have hm : n ∈ g.names := by rw [e1]; simp
    have hlen : l1.length < g.names.length := by rw [e1]; simp
    have hat : g.names[l1.length]? = some n := by rw [e1]; simp
    have hbe : ∀ i, i < l1.length → ∀ n', g.names[i]? = some n' → conOf g n' = none := fun i hi n' hn' => by
      rw [e1, List.getElem?_append_left hi] at hn'
      exact e3 n' (List.mem_of_getElem? hn')
    obtain ⟨pa, pb, ea, eb, ep⟩ : ∃ pa pb, bestC g (n, false) (n, true) = some pa ∧ bestC g (n, true) (n, false) = some pb ∧ p = (pa, pb) := by
      unfold conOf at e2
      split at e2
      · rename_i pa pb ea eb
        injection e2 with e2
        exact ⟨pa, pb, ea, eb, e2.symm⟩
      · cases e2
    subst ep
    have hc : ((bestC g (n, false) (n, true)).isSome && (bestC g (n, true) (n, false)).isSome) = true := by rw [ea, eb]; rfl
    have ew : waysD g n = [.list (pa.map litD), .list (pb.map litD)] := by rw [waysD, ea, eb]; rfl
    refine ⟨.rt (dat K (oD2 (some (pa, pb)))) (sb n), b_ret (s_forM (vs := [2]) (i_listT (xs := g.names) (f := .str) (d_var 1)) (pg_name (i := 2) nd rfl (.inr rfl)) l1.length (fun _ => st) (fun i => st.set 2 (.per (dat K ((g.names[i]?.map .str).getD .none)))) (Sub.refl _) ?ht2 (by rw [List.length_map]; omega) ?body2 (.inr ⟨by rw [List.length_map]; exact hlen, _, _, rfl, ?last⟩)), .inl ⟨_, rfl⟩⟩
    case ht2 =>
      intro i r h
      obtain ⟨n, hn, _, rfl⟩ := get_map h
      try dsimp only
      rw [hn]
      exact tg_name (by decide)
    case body2 =>
      intro i r hi h
      obtain ⟨n, hn, hm, rfl⟩ := get_map h
      try dsimp only
      rw [hn]
      have hc : (conOf g n).isSome = false := by rw [hbe i hi n hn]; rfl
      rw [conOf_some] at hc
      refine ⟨sb n, b_cons (s_lcA 3 (lc_one [false, true] (fun k => dat K (.bool k)) (fun k => oD (bestC g (n, k) (n, !k))) 4 (i_tupT (xs := [false, true]) (f := .bool) (d_tup (ds := [.bool false, .bool true]) (a_cons d_bl (a_cons d_bl a_nil)))) (blkOk_by (N := ["_law_grammar_here", "_law_names_here", "_law_name", "_law_ways", "_law_k"]) (sc := defScope s_law_contrary) (by decide +kernel)) (fun _ _ _ _ _ => pg_name (i := 4) nd rfl (.inl rfl)) rfl few
          (fun k _ _ _ _ _ _ => d_eq (d_callT T.law_best (ok_lbest T) (g, [(n, k)], [(n, !k)]) ⟨hg, fun s hs => by rw [List.mem_singleton.mp hs]; exact hm, by show 1 ≤ 100; decide, by show 1 ≤ 100; decide⟩ hr (a_cons (d_var 0) (a_cons (d_lst (ds := [litD (n, k)]) (a_cons (d_tup (ds := [.str n, .bool k]) (a_cons (d_var 2) (a_cons (d_var 4) a_nil))) a_nil)) (a_cons (d_lst (ds := [litD (n, !k)]) (a_cons (d_tup (ds := [.str n, .bool (!k)]) (a_cons (d_var 2) (a_cons (d_not (d_var 4)) a_nil))) a_nil)) a_nil)))) (congrArg oD (best n k hm)))))
        (b_no (t_cmp (op_notInP hu64) (opd_notInP (d := .none) (ds := waysD g n) ⟨rfl, by simp [PyData.depth]⟩ (pl_ways _ _) (by rw [waysD, none_in, hc]; rfl)) d_non (d_var 3)) b_nil), ?sub2⟩
      case sub2 => exact Sub.cons (Sub.cons (Sub.drop (Sub.drop (Sub.cons Sub.nil))))
    case last =>
      try dsimp only
      rw [hat]
      exact b_cons (s_lcA 3 (lc_one [false, true] (fun k => dat K (.bool k)) (fun k => oD (bestC g (n, k) (n, !k))) 4 (i_tupT (xs := [false, true]) (f := .bool) (d_tup (ds := [.bool false, .bool true]) (a_cons d_bl (a_cons d_bl a_nil)))) (blkOk_by (N := ["_law_grammar_here", "_law_names_here", "_law_name", "_law_ways", "_law_k"]) (sc := defScope s_law_contrary) (by decide +kernel)) (fun _ _ _ _ _ => pg_name (i := 4) nd rfl (.inl rfl)) rfl few
          (fun k _ _ _ _ _ _ => d_eq (d_callT T.law_best (ok_lbest T) (g, [(n, k)], [(n, !k)]) ⟨hg, fun s hs => by rw [List.mem_singleton.mp hs]; exact hm, by show 1 ≤ 100; decide, by show 1 ≤ 100; decide⟩ hr (a_cons (d_var 0) (a_cons (d_lst (ds := [litD (n, k)]) (a_cons (d_tup (ds := [.str n, .bool k]) (a_cons (d_var 2) (a_cons (d_var 4) a_nil))) a_nil)) (a_cons (d_lst (ds := [litD (n, !k)]) (a_cons (d_tup (ds := [.str n, .bool (!k)]) (a_cons (d_var 2) (a_cons (d_not (d_var 4)) a_nil))) a_nil)) a_nil)))) (congrArg oD (best n k hm)))))
        (b_one (s_if (k := true) (t_cmp (op_notInP hu64) (opd_notInP (d := .none) (ds := waysD g n) ⟨rfl, by simp [PyData.depth]⟩ (pl_ways _ _) (by rw [waysD, none_in, hc]; rfl)) d_non (d_var 3)) (fun _ => b_ret (s_ret (d_eq (d_tupOf T.z_tuple (d_var 3)) (by show PyData.tuple (waysD g n) = _; rw [ew]; rfl)))) (fun z => nomatch z)))
end
end Fc
/-! FcKs: sorted(xs, key=f) where the keys hold lists that stood before. -/
namespace Fc
open PySem PySem.W PySem.Spec PySem.Calls PyProof.Rows L2
/-- f(x) leaves what stood and answers with the key k; the key's lists are among D -/
def KeyO (D : Addr → Prop) (k : PyData) (s1 : Shared) (v : Value) (s2 : Shared) : Prop :=
  ∃ g tk, s2 = { s1 with heap := g, toks := tk } ∧ (∀ b o, s1.heap.get? b = some o → g.get? b = some o) ∧ ∃ as, Reads g v k as ∧ ∀ x ∈ as, D x
/-- the keys so far -/
def KeysO (D : Addr → Prop) (g : Heap) (v : Value) (k : PyData) : Prop := (∃ as, Reads g v k as ∧ ∀ x ∈ as, D x) ∧ alike k k = true
theorem KeysO.up {D : Addr → Prop} {g g' : Heap} (k : ∀ b o, g.get? b = some o → g'.get? b = some o) {v : Value} {d : PyData} (h : KeysO D g v d) : KeysO D g' v d := by
  obtain ⟨⟨as, r, q⟩, al⟩ := h
  exact ⟨⟨as, PyProof.Rows.Reads.keeps k r, q⟩, al⟩
theorem KeysO.but {D : Addr → Prop} {g g' : Heap} {c : Addr} (k : ∀ b o, b ≠ c → g.get? b = some o → g'.get? b = some o) (hc : ∀ o, g.get? c = some o → o.cls = .type "list") (nD : ¬ D c) {v : Value} {d : PyData} (h : KeysO D g v d) : KeysO D g' v d := by
  obtain ⟨⟨as, r, q⟩, al⟩ := h
  exact ⟨⟨as, Reads.keepBut k hc d v as al r fun z => nD (q c z), q⟩, al⟩
theorem each_end {α β : Type} {R : α → β → Prop} {x : α} {y : β} (h : R x y) : ∀ {as : List α} {bs : List β}, EachIs R as bs → EachIs R (as ++ [x]) (bs ++ [y])
  | _, _, .nil => .cons h .nil
  | _, _, .cons h1 t => .cons h1 (each_end h t)
section
variable {prog : Program} {w : World} {A : Around} {E : Value → Shared → Prop} {s : Shared} {a kS : Addr} {b : Bool} {vs : List Value} {e1 : Nat} {P : PySem.Fin → Shared → Prop} {kz : List PyData} {D : Addr → Prop} {f : Value}
theorem ko_rest {h1 : Heap} (old : KeepsBut a h1 s.heap) (nS : h1.get? kS = none) (gS : s.heap.get? kS = some (seqObj "list" #[] 0)) (gA : s.heap.get? a = some (seqObj "list" #[] e1)) (ne : kS ≠ a) (nD : ¬ D kS) (same : kz.length = vs.length) (few : vs.length ≤ sizeLine)
    (al : AllAlike kz) (so : Sortable kz) (room : ∀ d, d ∈ kz → A.units + d.depth < cLine)
    (ask : ∀ (i : Nat) (v : Value) (k : PyData), vs[i]? = some v → kz[i]? = some k → ∀ (g : Heap) (tk : Nat), KeepsBut a h1 g → wpAny (model prog w) A (call f [v]) (KeyO D k { s with heap := g, toks := tk }) (fun _ _ => False) { s with heap := g, toks := tk })
    (fin : ∀ g tk out c, KeepsBut a h1 g → g.get? a = some (seqObj "list" (List.toArray out) c) → KeyedOut b kz vs out → P (.done (.ret .none)) { s with heap := g, toks := tk }) : wpAny (model prog w) A (ksk_rest a f b vs.toArray e1 (.ref kS)) P E s := by
  let St : Nat → Shared → Prop := fun i s2 => ∃ g tk ks n, s2 = { s with heap := g, toks := tk } ∧ KeepsBut a h1 g ∧ g.get? kS = some (seqObj "list" ks n) ∧ g.get? a = some (seqObj "list" #[] e1) ∧ EachIs (KeysO D g) ks.toList (kz.take i)
  unfold ksk_rest
  refine wpAny_bind (wpAny_rule ?_)
  first
    | rw [List.forIn_toArray]
    | (rw [← Array.forIn_toList]; simp only [List.toList_toArray])
  refine wpAny_bind (ksk_fold St vs 0 s ⟨s.heap, s.toks, #[], 0, rfl, old, gS, gA, by rw [List.take_zero]; exact .nil⟩ (fun j x s2 hx hst => ?turn) fun s2 hst => ?last)
  case turn =>
    obtain ⟨g, tk, ks, n, rfl, kp, hS, hA, hks⟩ := hst
    rw [Nat.zero_add] at hks ⊢
    have lt : j < vs.length := (List.getElem?_eq_some_iff.mp hx).1
    have hk : kz[j]? = some kz[j] := List.getElem?_eq_getElem (by omega)
    have kl : ks.size ≤ vs.length := by
      have q := hks.length
      rw [Array.length_toList, List.length_take] at q
      omega
    have room2 : ks.size ≤ sizeLine := Nat.le_trans kl few
    refine wpAny_bind (wpAny_attempt (wpAny_mono (ask j x kz[j] hx hk g tk kp) (fun v s3 ans => ?_) fun _ _ no => no.elim))
    obtain ⟨g2, tk2, rfl, up, key⟩ := ans
    try dsimp only
    have hS2 := up _ _ hS
    have upd1 := Heap.SameBut.update g2 kS (Obj.mapSeq (·.push v))
    obtain ⟨n2, hn2⟩ : ∃ n2, (g2.update kS (Obj.mapSeq (·.push v))).get? kS = some (seqObj "list" (ks.push v) n2) := ⟨_, get?_update_seq hS2 (·.push v)⟩
    have after : ∀ {u : Value} {d : PyData}, KeysO D g2 u d → KeysO D (g2.update kS (Obj.mapSeq (·.push v))) u d := fun q => q.but (fun c o hc z => (upd1.2 c hc).trans z) (fun o z => by rw [hS2] at z; rw [← Option.some.inj z]) nD
    refine wpAny_bind (listUpdate_at hS2 rfl ?_ room2 (Nat.le_trans (Nat.le_of_eq (Array.size_push ..)) (Nat.succ_le_succ room2)))
    refine wpAny_pure ⟨rfl, _, tk2, ks.push v, n2, rfl, (kp.trans_all up).same upd1 (.inr nS), hn2, (upd1.2 a (Ne.symm ne)).trans (up _ _ hA), ?_⟩
    have e2 : kz.take (j + 1) = kz.take j ++ [kz[j]] := by rw [List.take_add_one, hk]; rfl
    rw [Array.toList_push, e2]
    exact each_end (after ⟨key, al _ (List.getElem_mem _) _ (List.getElem_mem _)⟩) (hks.mono fun u d q => after (q.up up))
  case last =>
    obtain ⟨g, tk, ks, n, rfl, kp, hS, hA, hks⟩ := hst
    rw [Nat.zero_add, ← same, List.take_length] at hks
    have rd : EachIs (fun v k => ∃ as, Reads g v k as) ks.toList kz := hks.mono fun v k ⟨⟨as, r, _⟩, _⟩ => ⟨as, r⟩
    have sz : ks.size = vs.length := by
      have q := rd.length
      rw [Array.length_toList] at q
      omega
    try dsimp only
    refine wpAny_bind (listItems_at hS rfl ?_)
    have srt := SortsAt.data (prog := prog) (w := w) (A := A) (s := { s with heap := g, toks := tk }) rd al so room
    exact keyH_end kp nS hS hA ne srt sz few fun g3 tk3 c k3 h3 => fin g3 tk3 _ c k3 h3 ⟨g, ks.toList, al, rfl, rd⟩
theorem ko_tree {n : Nat} (gA : s.heap.get? a = some (seqObj "list" vs.toArray n)) (hD : ∀ x, D x → x < s.heap.objs.size) (same : kz.length = vs.length) (few : vs.length ≤ sizeLine) (al : AllAlike kz) (so : Sortable kz) (room : ∀ d, d ∈ kz → A.units + d.depth < cLine)
    (ask : ∀ (i : Nat) (v : Value) (k : PyData), vs[i]? = some v → kz[i]? = some k → ∀ (g : Heap) (tk : Nat), KeepsBut a s.heap g → wpAny (model prog w) A (call f [v]) (KeyO D k { s with heap := g, toks := tk }) (fun _ _ => False) { s with heap := g, toks := tk })
    (fin : ∀ g tk out c, KeepsBut a s.heap g → g.get? a = some (seqObj "list" (List.toArray out) c) → KeyedOut b kz vs out → P (.done (.ret .none)) { s with heap := g, toks := tk }) : wpAny (model prog w) A (ksk_tree a f b) P E s := by
  let g1 := s.heap.update a (Obj.mapSeq fun _ => (#[] : Array Value))
  let g2 := g1.push (seqObj "tuple" vs.toArray 0)
  obtain ⟨n1, gA1⟩ : ∃ n1, g1.get? a = some (seqObj "list" #[] n1) := ⟨_, get?_update_seq gA fun _ => #[]⟩
  have z2 : g2.objs.size = s.heap.objs.size + 1 := by
    show (g1.push _).objs.size = _
    rw [size_push', Heap.size_update]
  have fresh : s.heap.get? g2.objs.size = none := Heap.get?_none_of_le (by rw [z2]; exact Nat.le_succ _)
  have lt := Heap.lt_size gA
  unfold ksk_tree
  refine wpAny_bind (listItems_at gA rfl (wpAny_bind (listUpdate_at gA rfl ?_ (by rw [List.size_toArray]; exact few) (Nat.zero_le _))))
  refine wpAny_bind (seqEpoch_at gA1 rfl (wpAny_bind (wpAny_newTuple (wpAny_bind (wpAny_newList (wpAny_holding ?_) (Nat.zero_le _))) few)))
  have kp : KeepsBut a s.heap (g2.push (seqObj "list" #[] 0)) := fun c o hc q => Heap.get?_push_of_some _ (Heap.get?_push_of_some _ (((Heap.SameBut.update s.heap a (Obj.mapSeq fun _ => (#[] : Array Value))).2 c hc).trans q))
  exact ko_rest (s := { s with heap := g2.push (seqObj "list" #[] 0) }) (kS := g2.objs.size) kp fresh (Heap.get?_push_size _ rfl) (Heap.get?_push_of_some _ (Heap.get?_push_of_some _ gA1)) (by rw [z2]; exact Nat.ne_of_gt (Nat.lt_succ_of_lt lt)) (fun z => by have q := hD _ z; rw [z2] at q; exact absurd q (Nat.not_lt_of_le (Nat.le_succ _))) same few al so room ask fin
/-- sorted(xs, key=f) -/
theorem ko_sorted {l : Addr} {kw : List (Str × Value)} {Q : Value → Shared → Prop} (hl : s.heap.IsList l vs.toArray) (hD : ∀ x, D x → x < s.heap.objs.size) (same : kz.length = vs.length) (few : vs.length ≤ sizeLine) (al : AllAlike kz) (so : Sortable kz) (room : ∀ d, d ∈ kz → A.units + 2 + d.depth < cLine)
    (c1 : argsOk "sorted" ⟨[.ref l], kw⟩) (c2 : ∀ x, argsOk "list.sort" ⟨[.ref x], kw⟩) (tr : ∀ x, Builtin.«list.sort» ⟨[.ref x], kw⟩ = ksk_tree x f b)
    (ask : ∀ (i : Nat) (v : Value) (k : PyData), vs[i]? = some v → kz[i]? = some k → ∀ (g : Heap) (tk : Nat), (∀ c o, s.heap.get? c = some o → g.get? c = some o) → wpAny (model prog w) A.in1.in1 (call f [v]) (KeyO D k { s with heap := g, toks := tk }) (fun _ _ => False) { s with heap := g, toks := tk })
    (fin : ∀ g tk out c, (∀ b o, s.heap.get? b = some o → g.get? b = some o) → s.heap.get? (s.heap.objs.size + 1) = none → g.get? (s.heap.objs.size + 1) = some (seqObj "list" (List.toArray out) c) → KeyedOut b kz vs out → Q (.ref (s.heap.objs.size + 1)) { s with heap := g, toks := tk }) :
    wpAny (model prog w) A (call (.builtin "sorted") [.ref l] kw) Q E s := by
  have keep : ∀ {g : Heap}, KeepsBut (s.heap.objs.size + 1) (copyHeap s.heap vs) g → ∀ c o, s.heap.get? c = some o → g.get? c = some o := fun k c o q => k c o (Nat.ne_of_lt (Nat.lt_succ_of_lt (Heap.lt_size q))) (copyHeap_old q)
  refine sorted_of_sort hl few c1 c2 fun E2 => ?_
  rw [tr]
  exact ko_tree (D := D) (s := { s with heap := copyHeap s.heap vs }) (copyHeap_at s.heap vs) (fun x hx => Nat.lt_of_lt_of_le (hD x hx) (by
      obtain ⟨o, ho⟩ : ∃ o, (copyHeap s.heap vs).get? (s.heap.objs.size + 1) = some o := ⟨_, copyHeap_at s.heap vs⟩
      exact Nat.le_of_lt (Nat.lt_of_succ_lt (Heap.lt_size ho)))) same few al so room (fun i v k hv hk g tk kp => ask i v k hv hk g tk (keep kp))
    fun g tk out c kp gA ko => ⟨rfl, fin g tk out c (keep kp) (Heap.get?_none_of_le (Nat.le_succ _)) gA ko⟩
end
end Fc
/-! FcKl: lambda x: (len(x), x) called. -/
namespace Fc
open PySem PySem.W PySem.Spec PySem.Calls PyProof.Rows L2
section
variable {prog : Program} {w : World} {K : PySem.W.Frag} {mg : Str → Option Value} {base : Heap} {A : Around} {s : Shared} {f c' : Addr} {q x : Str} {params : Arguments} {scope : Scope} {cl : List (Str × Addr)} {pm ctv : Value} {p2 p3 p4 p5 p6 : Pos} {k : Nat}
abbrev lenPair (x : Str) (p2 p3 p4 p5 p6 : Pos) (k : Nat) : Expr := .Tuple [.Call (.Name "len" p2) [.Name x p3] [] p4, .Name x p5] k p6
/-- such a lambda's names -/
structure LenS (x : Str) (params : Arguments) (body : Expr) (scope : Scope) : Prop where
  kind : scope.kind = .function
  co : scope.isCoroutine = false
  gen : scope.isGenerator = false
  cell : ∀ y ∈ scope.names, y.2 ≠ .cell ∧ y.2 ≠ .free
  own : scope.names.lookup x = some .local
  len : scope.names.lookup ("len" : Str) = some .globalImplicit
  dbg : (x == ("__debug__" : Str)) = false
  bind : ∀ (q : Str) (cl : List (Str × Addr)) (pm cd ct v : Value), bindArgs (kla_fn "<lambda>" q params body scope cl pm cd ct) ⟨[v], []⟩ = pure [(x, v)]
theorem lam_key (M : L2.Mod K mg base) {a : Addr} {its : List Value} {E : Value → Shared → Prop} (S : LenS x params (lenPair x p2 p3 p4 p5 p6 k) scope) (kb : ∀ b o, base.get? b = some o → s.heap.get? b = some o) (room : A.depth < recursionLimit)
    (hf : s.heap.get? f = some (kla_obj "<lambda>" q params (lenPair x p2 p3 p4 p5 p6 k) scope cl pm c' ctv)) (hcd : s.heap.CodeRec (.ref c') q) (hm : mg "len" = none) (hl : s.heap.IsList a its.toArray) (few : its.length ≤ 1000) :
    wpAny (model prog w) A (call (.ref f) [.ref a]) (fun v s2 => ∃ g tk T t, s2 = { s with heap := g, toks := tk } ∧ (∀ b o, s.heap.get? b = some o → g.get? b = some o) ∧ v = .ref T ∧ g.get? T = some { cls := .type "tuple", data := .seq #[.int its.length t, .ref a] }) E s := by
  refine wpAny_call (kla_callFunE room hf rfl S.co S.gen rfl hcd ?_)
  rw [S.bind]
  refine wpAny_pure (wpAny_newFunctionEnv (fun y hy => (S.cell y hy).1) (fun y hy => by rw [List.mem_singleton.mp hy]; exact S.own) (fun h1 hns hsb => ⟨(M.nolimit.keeps kb).fresh _ hsb, ?_⟩) S.kind)
  show codeAny _ _ (.expr _ (envX q scope s.heap.objs.size f (.ref c') cl)) _ _
  have kp : ∀ b o, s.heap.get? b = some o → h1.get? b = some o := fun b o e => hsb.extBut b o (Nat.ne_of_lt (Heap.lt_size e)) (Heap.get?_push_of_some _ e)
  have ldx : ∀ {A : Around} {Q : Value → Shared → Prop} {E : Value → Shared → Prop} {tk : Nat} {pos : Pos}, Q (.ref a) { s with heap := h1, toks := tk } → wpAny (model prog w) A (eval (.Name x pos) (envX q scope s.heap.objs.size f (.ref c') cl)) Q E { s with heap := h1, toks := tk } := fun h =>
    wpAny_Name (wpAny_loadName_local S.kind S.own hns (v := .ref a) (by simp) h) S.dbg
  refine kla_codeExpr (wpAny_Tuple_spliced ?_)
  show wpAny _ _ (spliced ((false, eval (.Call (.Name "len" p2) [.Name x p3] [] p4) _) :: backTo _ (starEach [.Name x p5] _))) _ _ _
  refine spliced_cons (wpAny_Call_Name_kw ?_)
  obtain ⟨mb, b1, b2⟩ := M.blt
  refine Name_function_global S.kind S.len (loadGlobal_builtin (M.glob.keeps fun b o e => kp b o (kb b o e)) hm (b1.keeps fun b o e => kp b o (kb b o e)) ((b2 "len" (by decide)).trans PySem.boot_len) ?_)
  refine PyProof.Rows.callWith_builtin1 (spliced_cons (ldx (spliced_nil ?_))) rfl rfl
  have hl1 : h1.IsList a its.toArray := by
    obtain ⟨o, e, c, n, d⟩ := hl
    exact ⟨o, kp _ _ e, c, n, d⟩
  refine PyProof.Rows.len_list hl1 (by rw [List.size_toArray]; omega) (spliced_cons (ldx (spliced_nil ⟨small_sz (show 2 ≤ 1000000 by decide), ?_⟩)))
  have e : (its.toArray.size : Int) = (its.length : Int) := by rw [List.size_toArray]
  rw [e]
  exact ⟨_, _, h1.objs.size, _, rfl, fun b o e => Heap.get?_push_of_some _ (kp b o e), rfl, Heap.get?_push_size _ rfl⟩
end
end Fc
/-! FcKr: sorted(xs, key=lambda x: (len(x), x)) as a rule; the lambda is made for the first time. -/
namespace Fc
open PySem PySem.W PySem.Spec PySem.Calls PyProof.Rows L2 LamX
section
variable {X : Cx} {pins : List (Addr × Obj)} {σ : L2.St} {H : Hp} {s : Shared}
/-- the heap behind the making of a lambda, its table being empty -/
abbrev tabH (H : Hp) (P c' : Addr) (ps : Array Value) (q : Str) : Hp := upd (upd H P (.tbl ps)) c' (CodeO c' q)
theorem lam_make0 {c P : Addr} {params : Arguments} {body : Expr} {scope : Scope} {pos : Pos} {E : Value → Shared → Prop} {Q : Value → Shared → Prop} (I : Inv X pins σ H s) (TB : TabB X.base X.mg c P) (hc : X.env.code = .ref c) (hP : H P = some (.tbl #[])) (hdef : defaultsOf params X.env = ([], [])) (hfree : ∀ y ∈ scope.names, y.2 = .free → ∃ c, X.env.cells.lookup y.1 = some c)
    (h : ∀ (f c' : Addr) (pm ctv : Value) (ps : Array Value) (s' : Shared), Inv X pins σ (tabH H P c' ps (X.env.qual ++ "<lambda>")) s' → H c' = none → H f = none → f ∉ frs X.stack → f ≠ c' → s'.heap.get? f = some (kla_obj "<lambda>" (X.env.qual ++ "<lambda>") params body scope (cloFrom X.env.cells scope.names []) pm c' ctv) →
      s'.heap.CodeRec (.ref c') (X.env.qual ++ "<lambda>") → Q (.ref f) s') : wpAny (model X.prog X.w) X.A (eval (.Lambda params body scope pos) X.env) Q E s := by
  have at0 : s.heap.get? P = some { cls := .none, data := .fields #[] } := I.hok P _ hP
  refine kla_eval hdef (kla_makeFunction (mg := X.mg) (c := c) (P := P) (ps := #[]) (closure_ok hfree) I.ok.glob (I.mod.glob.keeps I.bk) hc (TB.code.keeps I.bk) at0 True.intro rfl TB.gP (TB.bm.keeps I.bk) fun c' ctv g tk hx ge lt rec_ tb => ?_)
  obtain ⟨c2, oc, vs, t, e2, hoc, hd, hv⟩ := id rec_
  cases e2
  have sz : s.heap.objs.size ≤ g.objs.size := Nat.le_trans ge (Nat.le_of_lt lt)
  have J := inv_table (t' := tk) (ps := #[]) (more := #[rawInt pos.line, rawInt pos.col, .ref c']) (h' := g.push (kla_obj "<lambda>" (X.env.qual ++ "<lambda>") params body scope (cloFrom X.env.cells scope.names []) ((X.mg "__name__").getD .none) c' ctv)) I hP
    (fun b o hb e => Heap.get?_push_of_some _ (hx b o hb e)) (Heap.get?_push_of_some _ tb) ge ⟨oc, vs, t, Heap.get?_push_of_some _ hoc, hd, hv⟩
  refine h g.objs.size c' _ ctv _ _ J (I.hok.fresh ge) (I.hok.fresh sz) (fun z => ?_) (Nat.ne_of_gt lt) (Heap.get?_push_size _ rfl) (rec_.push _)
  rcases List.mem_cons.mp (I.stkSub _ z) with e | e
  · have h1 := I.lt
    rw [← e] at h1
    exact Nat.lt_irrefl _ (Nat.lt_of_lt_of_le h1 sz)
  · exact I.nofs sz e
end
/-- a table taken out of the frame -/
theorem Evn.tab {F B H : Hp} {σ : L2.St} {ρ : Rho} {P c' : Addr} {ps : Array Value} {q : Str} {o : HO} (e : Evn F B H σ ρ) (hP : F P = some o) (hc : H c' = none) : Evn (dropA F P) B (tabH H P c' ps q) σ ρ := by
  have hBP : B P = none := e.sp.dis _ _ hP
  have at_ : ∀ b u, H b = some u → b ≠ P → tabH H P c' ps q b = some u := fun b u h hb => by
    have hbc : b ≠ c' := fun z => by rw [z, hc] at h; cases h
    unfold tabH
    rw [upd_ne hbc, upd_ne hb]
    exact h
  have dr : ∀ b u, dropA F P b = some u → b ≠ P ∧ F b = some u := fun b u h => by
    unfold dropA at h
    split at h
    · cases h
    · rename_i hb
      exact ⟨hb, h⟩
  refine ⟨⟨fun b u h => at_ b u (e.sp.bas _ _ h) (fun z => by rw [z, hBP] at h; cases h), fun b u h => at_ b u (e.sp.frm _ _ (dr b u h).2) (dr b u h).1, fun b u h => e.sp.dis b u (dr b u h).2⟩, e.len, e.per, fun i c h => ?_, e.sep⟩
  obtain ⟨a, h1, h2, h3, h4⟩ := e.own i c h
  have ha : a ≠ P := fun z => by rw [z, hP] at h3; cases h3
  refine ⟨a, h1, h2, by unfold dropA; rw [if_neg ha]; exact h3, c.mono (Same.refl B) ?_ h4⟩
  obtain ⟨u, hu⟩ := ne_some (c.there h4)
  rw [hu]
  exact at_ a u hu ha
def sD (s : List Str) : PyData := .list (s.map .str)
def keyD (s : List Str) : PyData := .tuple [.int s.length, sD s]
/-- the subsets, sorted -/
def sortK (ss : List (List Str)) : List (List Str) := ss.mergeSort (dataLe false keyD)
theorem sortK_mem {ss : List (List Str)} {s : List Str} : s ∈ sortK ss ↔ s ∈ ss := (List.mergeSort_perm ss _).mem_iff
theorem sortK_len (ss : List (List Str)) : (sortK ss).length = ss.length := (List.mergeSort_perm ss _).length_eq
instance canT_ls : CanT (List Str) := canT_list (by decide)
instance canT_key : CanT (Int × List Str) := canT_pair ⟨by decide, by decide⟩
theorem each_in {α β γ : Type} {R : α → γ → Prop} (f : β → γ) : ∀ {as : List α} {bs : List β}, EachIs (fun a b => R a (f b)) as bs → EachIs R as (bs.map f)
  | _, _, .nil => .nil
  | _, _, .cons h t => .cons h (each_in f t)
theorem boot_sorted' : bootBuiltins "sorted" = some (.builtin "sorted") := by decide +kernel
section
variable {X : Cx} {ρ ρ1 : Rho} {e : Expr} {ss : List (List Str)} {x : Str} {params : Arguments} {scope : Scope} {p pos lpos kpos p2 p3 p4 p5 p6 : Pos} {k : Nat} {c P : Addr}
def tSortLam (K : PySem.W.Frag) (ρ ρ1 : Rho) (P : Addr) (ss : List (List Str)) : TE := fun σ H Q => ∃ F B, F P = some (.tbl #[]) ∧ Evn F B H σ ρ ∧ ∀ v H' B', Same B B' → Evn (dropA F P) B' H' σ ρ1 → (dat K (.list ((sortK ss).map sD))).p v B' → Q v H'
theorem pe_sortLam (he : PE X e (tE ρ ρ1 (dat X.K (.list (ss.map sD))))) (zs : X.mg "sorted" = none) (zl : X.mg "len" = none) (TB : TabB X.base X.mg c P) (hc : X.env.code = .ref c) (S : LenS x params (lenPair x p2 p3 p4 p5 p6 k) scope) {kk : Nat} (hr : Room (kk + 2) X.A) (few : ss.length ≤ 1000) (low : ∀ s ∈ ss, s.length ≤ 1000)
    (hdef : defaultsOf params X.env = ([], []) := by rfl) (hg : Gl X "sorted" := by rfl) (hst : starEach [e] X.env = (false, eval e X.env) :: starEach [] X.env := by rfl) (hst2 : backTo pos (starEach [e] X.env) = (false, eval e X.env) :: backTo pos (starEach [] X.env) := by rfl) (hpl : (backTo pos (starEach [e] X.env)).any (·.1) = false := by rfl)
    (hk1 : (backToKw pos (keywordEach [⟨some "key", .Lambda params (lenPair x p2 p3 p4 p5 p6 k) scope lpos, kpos⟩] X.env)) = [(some ("key" : Str), do let v ← eval (.Lambda params (lenPair x p2 p3 p4 p5 p6 k) scope lpos) X.env; standAt pos; pure v)] := by rfl) :
    PE X (.Call (.Name "sorted" p) [e] [⟨some "key", .Lambda params (lenPair x p2 p3 p4 p5 p6 k) scope lpos, kpos⟩] pos) (tSortLam X.K ρ ρ1 P ss) := by
  refine ⟨fun pins s σ H Q I ⟨F, B, hFP, ev, q⟩ => ?_⟩
  refine wpAny_Call_Name_kw (ld_blt I hg zs boot_sorted' ?_)
  refine PyProof.Rows.callWith_kw (thn ((a_cons he a_nil hst).run pos pins s σ H (fun vs H1 => ∃ B1, Same B B1 ∧ Evn F B1 H1 σ ρ1 ∧ Reps [dat X.K (.list (ss.map sD))] vs B1) I ⟨F, B, ev, fun vs H1 B1 s1 e1 hv => ⟨B1, s1, e1, hv⟩⟩) fun us s1 hh => ?_) hst2 hpl (by rw [hk1]; rfl) (by rw [hk1]; rfl)
  rw [hk1]
  obtain ⟨vs, H1, I1, r1, B1, sB, e1, hv⟩ := hh
  cases hv with
  | cons hv0 hvn =>
  cases hvn
  cases r1 with
  | cons ru rn =>
  cases rn
  obtain ⟨l, ys, rfl, hls, hds⟩ := dp_list hv0
  cases ru
  have hP1 : H1 P = some (.tbl #[]) := e1.sp.frm _ _ hFP
  refine wpAny_evalAll_cons (wpAny_bind (lam_make0 I1 TB hc hP1 hdef (fun y hy z => absurd z (S.cell y hy).2) fun f c' pm ctv ps s2 I2 nc nf nfr nfc hf hcd => wpAny_bind (wpAny_standAt (wpAny_pure (wpAny_evalAll_nil ?_)))))
  have e2 := e1.tab (ps := ps) (q := X.env.qual ++ "<lambda>") hFP nc
  have sB2 : Same B1 (tabH H1 P c' ps (X.env.qual ++ "<lambda>")) := e2.sp.bas
  obtain ⟨its, rv, pl, hz⟩ := I2.list (same_l sB2 hls)
  have hl : s2.heap.IsList l its.toArray := by
    obtain ⟨o, m, e, c, d, z⟩ := pl
    exact ⟨o, e, c, m, z⟩
  have hlen : its.length = ss.length := by
    rw [← Paired.length rv, dps_len hds, List.length_map]
  have eR : EachIs (fun v (s : List Str) => ∃ y, RelV y v ∧ Dp X.K B1 y (sD s)) its ss := each_of_map (R := fun v d => ∃ y, RelV y v ∧ Dp X.K B1 y d) sD (each_of hds rv)
  have C := can_sort (α := Int × List Str) (ss.map fun s => ((s.length : Int), s)) (by rw [List.length_map]; omega)
  have ek : (ss.map fun s => ((s.length : Int), s)).map Datum.toD = ss.map keyD := by rw [List.map_map]; rfl
  rw [ek] at C
  have hun := hr.un
  show wpAny _ _ (call (.builtin "sorted") [.ref l] [(("key" : Str), .ref f)]) _ _ _
  refine ko_sorted (D := fun x => x < s2.heap.objs.size) (kz := ss.map keyD) (vs := its) hl (fun x h => h) (by rw [List.length_map]; exact hlen.symm) (by rw [hlen]; exact small_sz (by omega)) C.al C.so (fun d hd => by have := C.low d hd; omega) ?c1 ?c2 (fun a => PyProof.Rows.ksk_t1 f a) ?ask ?fin
  case c1 => exact (by unfold argsOk; kernel_rfl)
  case c2 => exact fun a => by unfold argsOk; kernel_rfl
  case ask =>
    intro i v k0 hv hk0 g tk kp
    rw [List.getElem?_map] at hk0
    cases hs : ss[i]? with
    | none => rw [hs] at hk0; cases hk0
    | some st =>
      rw [hs] at hk0
      cases hk0
      have hz : (v, st) ∈ its.zip ss := List.mem_of_getElem? (i := i) (by rw [List.getElem?_zip_eq_some]; exact ⟨hv, hs⟩)
      obtain ⟨y, ry, hy⟩ := eR.zip _ hz
      obtain ⟨a, zs, rfl, ha, hzs⟩ := dp_list hy
      cases ry
      obtain ⟨ia, ra, pla, _⟩ := I2.list (same_l sB2 ha)
      have hla : s2.heap.IsList a ia.toArray := by
        obtain ⟨o, m, e, c, d, z⟩ := pla
        exact ⟨o, e, c, m, z⟩
      have hlg : g.IsList a ia.toArray := by
        obtain ⟨o, e, c, n, d⟩ := hla
        exact ⟨o, kp _ _ e, c, n, d⟩
      have hl2 : ia.length = st.length := by rw [← Paired.length ra, dps_len hzs, List.length_map]
      have hst := low st (List.mem_of_getElem? hs)
      refine thn (lam_key (K := X.K) (base := X.base) (mg := X.mg) (s := { s2 with heap := g, toks := tk }) (A := X.A.in1.in1) I2.mod S (fun b o e => kp b o (I2.bk b o e)) (by have := hr.dp; show X.A.depth < recursionLimit; omega) (kp _ _ hf) (hcd.keeps kp) zl hlg (by omega)) fun v2 s3 hh => ?_
      obtain ⟨g2, tk2, T, t, es, up, ev2, hT⟩ := hh
      subst es ev2
      obtain ⟨as, hr1⟩ := Dp.reads I2 _ _ _ (dp_mono sB2 _ _ hy) (show RelV (.ref a) (.ref a) from rfl)
      have hlt := reads_lt _ _ _ hr1 (DatumOrd.alike (α := List Str) st st)
      have hr2 : Reads g2 (.ref a) (sD st) as := PyProof.Rows.Reads.keeps (fun b o e => up b o (kp b o e)) hr1
      refine ⟨g2, tk2, rfl, up, [] ++ (as ++ []), ?_, fun x hx => hlt x (by simpa using hx)⟩
      rw [hl2] at hT
      exact Reads.tuple hT rfl rfl (.cons (.int _ _) (.cons hr2 .nil))
  case fin =>
    intro g tk out c3 kp hfr hD ko
    have eo := keyedOut_each keyD ko eR
    obtain ⟨xs', r3, d3⟩ := of_each (K := X.K) (T := B1) (ds := (sortK ss).map sD) (each_in sD eo)
    have hsz : s2.heap.objs.size ≤ s2.heap.objs.size + 1 := Nat.le_succ _
    have hno := I2.hok.fresh hsz
    have hlx : xs'.length ≤ sizeLine := by
      rw [dps_len d3, List.length_map, sortK_len]
      exact small_sz (by omega)
    have J : Inv X pins σ (upd (tabH H1 P c' ps (X.env.qual ++ "<lambda>")) (s2.heap.objs.size + 1) (.lst xs')) { s2 with heap := g, toks := tk } := I2.laid (t' := tk) kp hsz ⟨hlx, out, c3, r3, hD⟩
    have gr := Grow.laid (o := .lst xs') sB2 hno
    refine ⟨.ref (s2.heap.objs.size + 1), _, J, rfl, q _ _ _ (sB.trans gr.bup) (e2.grow gr) ?_⟩
    exact Dp.lst (.inl (.inl upd_same)) (dps_mono gr.bup _ _ d3)
end
end Fc
/-! FcLi: defs that use up a table of code objects; _law_subsets. -/
namespace Fc
open PySem PySem.W PySem.Spec PySem.Calls PyProof.Rows L2 LamX
/-! ### what uses up the table at P -/
/-- a def that uses up the table -/
def spT {ι : Type} (P : Addr) (pre : ι → Prop) (rs : ι → List Rp) (r : ι → Rp) : Sp := fun vs H Q _ => ∃ i, pre i ∧ ∃ F B, F P = some (.tbl #[]) ∧ Split F B H ∧ Reps (rs i) vs B ∧ ∀ v H' B', Same B B' → Split (dropA F P) B' H' → (r i).p v B' → Q v H'
def tET (P : Addr) (ρ ρ1 : Rho) (r : Rp) : TE := fun σ H Q => ∃ F B, F P = some (.tbl #[]) ∧ Evn F B H σ ρ ∧ ∀ v H' B', Same B B' → Evn (dropA F P) B' H' σ ρ1 → r.p v B' → Q v H'
def tST (P : Addr) (ρ ρ1 : Rho) (r : Rp) : TS := fun D σ H => ∃ F B, F P = some (.tbl #[]) ∧ Evn F B H σ ρ ∧ ∀ v σ' H' B', Same B B' → Evn (dropA F P) B' H' σ' ρ1 → r.p v B' → D.rt v H'
theorem dropA_ne {F : Hp} {P b : Addr} (h : b ≠ P) : dropA F P b = F b := if_neg h
theorem dropA_some {F : Hp} {P b : Addr} {o : HO} (h : dropA F P b = some o) : b ≠ P ∧ F b = some o := by
  unfold dropA at h
  split at h
  · cases h
  · rename_i hb
    exact ⟨hb, h⟩
theorem Split.backTab {F B H B' H' : Hp} {P : Addr} (e : Split F B H) (s : Split (dropA (Fc.rest B H) P) B' H') : Split (dropA F P) B' H' := by
  have key : ∀ b o, dropA F P b = some o → dropA (Fc.rest B H) P b = some o := fun b o h => by
    obtain ⟨h1, h2⟩ := dropA_some h
    rw [dropA_ne h1]
    exact rest_of (e.dis b o h2) (e.frm b o h2)
  exact ⟨s.bas, fun b o h => s.frm b o (key b o h), fun b o h => s.dis b o (key b o h)⟩
theorem Evn.backTab {F B H B' H' : Hp} {σ : L2.St} {ρ : Rho} {P : Addr} {o : HO} (e : Evn F B H σ ρ) (hP : F P = some o) (sb : Same B B') (s : Split (dropA (rest B H) P) B' H') : Evn (dropA F P) B' H' σ ρ where
  sp := e.sp.backTab s
  len := e.len
  per := fun i r h => let ⟨v, h1, h2⟩ := e.per i r h; ⟨v, h1, r.mono sb h2⟩
  own := fun i c h => by
    obtain ⟨a, h1, h2, h3, h4⟩ := e.own i c h
    obtain ⟨u, hu⟩ := ne_some (c.there h4)
    have ha : a ≠ P := fun z => by rw [z, hP] at h3; cases h3
    have q : dropA (rest B H) P a = some u := by rw [dropA_ne ha]; exact rest_of h2 hu
    refine ⟨a, h1, s.dis a u q, by rw [dropA_ne ha]; exact h3, c.mono sb ?_ h4⟩
    rw [hu]
    exact s.frm a u q
  sep := e.sep
/-- a def of the text, its code object told -/
structure FunC (K : PySem.W.Frag) (x qual : Str) (st : Stmt) (f : Addr) (fd : FuncData) (c : Addr) : Prop where
  ex : ∃ (oc : Value) (od : Option Addr) (kV doc pm : Value) (an : Option Addr) (ct : Value) (osl : Array (Option Value)),
    fd = PySem.W.fnOf x qual (defArgs st) (defBody st) (defScope st) .none kV doc pm an (.ref c) ct ∧ K.lookup f = some ⟨oc, od, .func fd, osl⟩ ∧ PySem.W.codeIn K (.ref c) qual = true
section
variable {P : Program} {w : World} {K : PySem.W.Frag} {mg : Str → Option Value} {base : Heap}
theorem fn_tab {x qual : Str} {st : Stmt} {f : Addr} {fd : FuncData} {N ps : List Str} {k : Nat} {ι : Type} {pre : ι → Prop} {rs : ι → List Rp} {r : ι → Rp} {c T : Addr} (F : FunC K x qual st f fd c) (S : FnScope N ps (defScope st)) (hl : ∀ i, (rs i).length = ps.length)
    (body : ∀ (A : Around) (outer : List PySem.Env) (s : Shared) (H : Hp) (E : XK) (i : ι), Room k (A.deeper (envOfC qual (defScope st) s.heap.objs.size f (.ref c))) → pre i →
      ∃ ρ', PSs (cxD P w K mg base N qual st f (.ref c) A outer s H E) (defBody st) (tST T ((rs i).map Sl.per ++ List.replicate (N.length - ps.length) .no) ρ' (r i))) :
    FnOk P w K mg base CX0 (k + 1) f fd ps (spT T pre rs r) := by
  obtain ⟨oc, od, kV, doc, pm, an, ct, osl, rfl, lk, hcd⟩ := F.ex
  refine fn_of lk hcd S (fun vs H Q E ⟨i, _, F, B, _, _, hv, _⟩ => by rw [hv.length]; exact hl i) fun A outer s H vs Q E hr ⟨i, hp, Fr, B, hT, sp, hv, q⟩ => ?_
  obtain ⟨ρ', hb⟩ := body A outer s H E i hr hp
  refine ⟨_, hb.nox, ?_⟩
  have e := spl_start sp hv (N.length - ps.length)
  have hst : L2.start N vs = vs.map some ++ List.replicate (N.length - ps.length) none := by
    unfold L2.start
    rw [hv.length, hl i]
  rw [hst]
  exact ⟨Fr, B, hT, e, fun v σ' H' B' s e' hv => q v H' B' s e'.sp hv⟩
end
section
variable {X : Cx} {st : Stmt} {rest' : List Stmt} {ρ ρ1 ρ2 : Rho} {r : Rp} {P : Addr} {e : Expr} {es : List Expr} {pos p : Pos} {x : Str}
theorem b_consT (h1 : PS X st (tS ρ (.nx ρ1))) (h2 : PSs X rest' (tST P ρ1 ρ2 r)) : PSs X (st :: rest') (tST P ρ ρ2 r) :=
  PSs.weak (pss_cons h1 h2) fun D σ H ⟨F, B, hP, e, q⟩ => ⟨F, B, e, fun σ' H' B' s e' => ⟨F, B', hP, e', fun v σ2 H2 B2 s2 e2 hv => q v σ2 H2 B2 (s.trans s2) e2 hv⟩⟩
theorem b_preT (h : PSs X rest' (tST P ρ1 ρ2 r)) (s : Sub ρ ρ1) : PSs X rest' (tST P ρ ρ2 r) := PSs.weak h fun D σ H ⟨F, B, hP, e, q⟩ => ⟨F, B, hP, e.less s, q⟩
theorem b_retT (he : PE X e (tET P ρ ρ1 r)) : PSs X [.Return (some e) pos] (tST P ρ ρ1 r) :=
  PSs.weak (pss_one (ps_ret he)) fun D σ H ⟨F, B, hP, e, q⟩ => ⟨F, B, hP, e, fun v H1 B1 s1 e1 hv => q v σ H1 B1 s1 e1 hv⟩
theorem d_callTab {ι : Type} {pre : ι → Prop} {rsf : ι → List Rp} {rf : ι → Rp} {rs : List Rp} {k : Nat} {ps : List Str} (G : GlT X.K X.mg x st ps) (F : FnOk X.prog X.w X.K X.mg X.base CX0 k G.a G.d ps (spT P pre rsf rf)) (i : ι) (hp : pre i) {kk : Nat} (hr : Room kk X.A) (ha : PA X (e :: es) (tAs ρ ρ1 rs))
    (h1 : rsf i = rs := by rfl) (h2 : rf i = r := by rfl) (hkk : k ≤ kk := by decide) (hg : Gl X x := by rfl) (hdb : (x == ("__debug__" : Str)) = false := by decide) (he : starEach (e :: es) X.env = (false, eval e X.env) :: starEach es X.env := by rfl) (hpl : (backTo pos (starEach es X.env)).any (·.1) = false := by rfl) :
    PE X (.Call (.Name x p) (e :: es) [] pos) (tET P ρ ρ1 r) := by
  subst h1 h2
  refine PE.weak (pe_call F (E := fun _ _ _ => False) (hr.mono hkk) hg G.g G.F.kp G.b (.nil : Vals [] []) pass0 ha hdb he hpl) fun σ H Q ⟨Fr, B, hP, ev, q⟩ => ⟨Fr, B, ev, fun vs H1 B1 s1 e1 hvs => ?_⟩
  refine ⟨i, hp, rest B1 H1, B1, rest_of (e1.sp.dis _ _ hP) (e1.sp.frm _ _ hP), e1.sp.rest, by rw [List.append_nil]; exact hvs, fun v H' B' sb sp hr => q v H' B' (s1.trans sb) (e1.backTab hP sb sp) hr⟩
end
/-! ### _law_subsets -/
theorem subsF_snoc (xs : List Str) (n : Str) : subsF (xs ++ [n]) = subsF xs ++ (subsF xs).map (· ++ [n]) := by unfold subsF; rw [List.foldl_append]; rfl
theorem subsF_len : ∀ xs : List Str, (subsF xs).length = 2 ^ xs.length ∧ ∀ s ∈ subsF xs, s.length ≤ xs.length := by
  have key : ∀ n (xs : List Str), xs.length = n → (subsF xs).length = 2 ^ xs.length ∧ ∀ s ∈ subsF xs, s.length ≤ xs.length := by
    intro n
    induction n with
    | zero =>
      intro xs h
      obtain rfl : xs = [] := List.eq_nil_of_length_eq_zero h
      exact ⟨rfl, fun s hs => by have : s = [] := by simpa [subsF] using hs
                                 rw [this]; exact Nat.le_refl _⟩
    | succ n ih =>
      intro xs h
      obtain ⟨ys, y, rfl⟩ : ∃ ys y, xs = ys ++ [y] := ⟨xs.dropLast, xs.getLast (fun z => by rw [z] at h; cases h), (List.dropLast_concat_getLast _).symm⟩
      have hy : ys.length = n := by simpa using h
      obtain ⟨h1, h2⟩ := ih ys hy
      rw [subsF_snoc]
      refine ⟨by rw [List.length_append, List.length_map, h1, List.length_append, List.length_singleton, Nat.pow_succ]; omega, fun s hs => ?_⟩
      rw [List.length_append, List.length_singleton]
      rcases List.mem_append.mp hs with hs | hs
      · have := h2 s hs; omega
      · obtain ⟨t, ht, rfl⟩ := List.mem_map.mp hs
        have := h2 t ht
        rw [List.length_append, List.length_singleton]
        omega
  exact fun xs => key _ xs rfl
/-- what is told of the two defs with lambdas -/
structure TxtC (K : PySem.W.Frag) (mg : Str → Option Value) (base : Heap) (T : Txt K mg) where
  cS : Addr
  PS : Addr
  cL : Addr
  PL : Addr
  fS : FunC K "_law_subsets" "_law_subsets" s_law_subsets T.law_subsets.a T.law_subsets.d cS
  fL : FunC K "law" "law" s_law T.law.a T.law.d cL
  tS : TabB base mg cS PS
  tL : TabB base mg cL PL
  ne : PL ≠ PS
section
variable {P : Program} {w : World} {K : PySem.W.Frag} {mg : Str → Option Value} {base : Heap}
abbrev sp_lsubsets (K : PySem.W.Frag) (PS : Addr) : Sp := spT (ι := Gm) PS (fun g => g.ops.length ≤ 5) (fun g => [dat K (gmD g)]) (fun g => dat K (.list ((sortK (subsF (sortT g.names))).map sD)))
theorem ok_lsubsets (T : Txt K mg) (C : TxtC K mg base T) : FnOk P w K mg base CX0 3 T.law_subsets.a T.law_subsets.d ["_law_grammar_here"] (sp_lsubsets K C.PS) := by
  have nd := sc_law_subsets.nd
  refine fn_tab C.fS sc_law_subsets (fun _ => rfl) (fun A outer s H E g hr hg => ?_)
  have hu := hr.units
  have h128 := hu128 hr
  have hnl : g.names.length ≤ 5 := by rw [show g.names.length = g.ops.length from List.length_map _]; exact hg
  let ns := sortT g.names
  have hns : ns.length ≤ 5 := by rw [show ns.length = g.names.length from (sortT_perm _).length_eq]; exact hnl
  have p5 : ∀ i, i ≤ 5 → 2 ^ i ≤ 32 := fun i hi => Nat.pow_le_pow_right (by decide) hi
  let st : List (List Str) → Rho := fun f => [.per (dat K (gmD g)), .per (dat K (.list (f.map sD))), .no, .no, .no]
  refine ⟨st (subsF ns), b_consT (s_set 1 (d_lst (ds := [.list []]) (a_cons (d_lst (ds := []) a_nil) a_nil)))
    (b_consT (s_for (vs := [2]) (i_listT (xs := ns) (f := .str) (d_sorted (α := Str) (xs := g.names) h128 T.z_sorted (d_eq (d_lcT (lc_one g.ops (fun o => dat K (opD o)) (fun o => .str o.name) 3 (i_tupT (d_ix ix_tup (opd_ixT (ds := [.tuple (g.ops.map opD), _, _]) rfl) (d_var 0) d_int)) (blkOk_by (N := ["_law_grammar_here", "_law_found", "_law_name", "_law_option", "_law_some"]) (sc := defScope s_law_subsets) (by decide +kernel)) (fun _ _ _ _ _ => pg_name (i := 3) nd rfl (.inl rfl)) rfl (by omega)
        (fun o ho _ _ _ _ _ => d_ix ix_tup (opd_ixT (ds := [.str o.name, .str o.sh, kdD o.kd]) rfl) (d_var 3) d_int))) ?names) (by omega))) (pg_name (i := 2) nd rfl (.inr rfl)) (fun i => st (subsF (ns.take i))) (fun i => (st (subsF (ns.take i))).set 2 (.per (dat K ((ns[i]?.map .str).getD .none)))) (Sub.refl _) ?ht ?body)
    (b_preT (ρ1 := st (subsF ns)) (b_retT (r := dat K (.list ((sortK (subsF ns)).map sD))) (pe_sortLam (d_var 1) T.z_sorted T.z_len C.tS rfl ⟨rfl, rfl, rfl, by decide +kernel, rfl, rfl, rfl, fun _ _ _ _ _ _ => rfl⟩ (kk := 0) hr ?few ?low)) ?pre))⟩
  case names =>
    rw [filter_tt]
    show _ = PyData.list ((g.ops.map (·.name)).map .str)
    rw [List.map_map]
    rfl
  case few =>
    rw [(subsF_len ns).1]
    have := p5 _ hns
    omega
  case low =>
    intro s hs
    have := (subsF_len ns).2 s hs
    omega
  case pre =>
    rw [List.length_map, List.take_length]
    exact Sub.refl _
  case ht =>
    intro i r h
    obtain ⟨n, hn, _, rfl⟩ := get_map h
    try dsimp only
    rw [hn]
    exact tg_name (by decide)
  case body =>
    intro i r h
    obtain ⟨n, hn, hm, rfl⟩ := get_map h
    try dsimp only
    rw [hn]
    have hi := (List.getElem?_eq_some_iff.mp hn).1
    have htl : (ns.take i).length ≤ 4 := by rw [List.length_take]; omega
    obtain ⟨l1, l2⟩ := subsF_len (ns.take i)
    have l3 : (subsF (ns.take i)).length ≤ 32 := by rw [l1]; exact p5 _ (by omega)
    have e1 : (subsF (ns.take (i + 1))).map sD = (subsF (ns.take i)).map sD ++ (subsF (ns.take i)).map (fun s => PyData.list (s.map .str ++ [.str n])) := by
      rw [take_snoc hn, subsF_snoc, List.map_append, List.map_map]
      congr 1
      refine List.map_congr_left fun s _ => ?_
      show sD (s ++ [n]) = _
      unfold sD
      rw [List.map_append]
      rfl
    have ff : ((subsF (ns.take i)).filter fun _ => true).map (fun s => PyData.list (s.map .str ++ [.str n])) = (subsF (ns.take i)).map (fun s => PyData.list (s.map .str ++ [.str n])) := by rw [filter_tt]
    refine ⟨((st (subsF (ns.take i))).set 2 (.per (dat K (.str n)))).set 1 (.per (dat K (.list ((subsF (ns.take (i + 1))).map sD)))), b_one (s_set 1 (d_eq (d_bin op_catQ (opd_cat' (es := (subsF (ns.take i)).map (fun s => PyData.list (s.map .str ++ [.str n]))) (by rw [List.length_map, List.length_map]; omega)) (d_var 1) (d_eq (d_lcT (lc_one (subsF (ns.take i)) (fun s => dat K (sD s)) (fun s => PyData.list (s.map .str ++ [.str n])) 4 (i_listT (d_var 1)) (blkOk_by (N := ["_law_grammar_here", "_law_found", "_law_name", "_law_option", "_law_some"]) (sc := defScope s_law_subsets) (by decide +kernel)) (fun _ _ _ _ _ => pg_name (i := 4) nd rfl (.inl rfl)) rfl (by omega)
        (fun s hs _ _ _ _ _ => d_bin op_catQ (opd_cat' (ds := s.map .str) (es := [.str n]) (by rw [List.length_map]; have := l2 s hs; show _ + 1 ≤ _; omega)) (d_var 4) (d_lst (ds := [.str n]) (a_cons (d_var 2) a_nil))))) (congrArg PyData.list ff))) (congrArg PyData.list e1.symm))), Sub.cons (Sub.cons (Sub.drop (Sub.cons (Sub.cons Sub.nil))))⟩
end
end Fc
/-! FcLj: _law_sets: a comprehension whose source uses up the table. -/
namespace Fc
open PySem PySem.W PySem.Spec PySem.Calls PyProof.Rows L2 LamX
section
variable {X : Cx} {elt tg iter : Expr} {ifs : List Expr} {scope : Scope} {own : List (Str × Nat)} {pos : Pos} {ρ ρ0 : Rho} {g : TG} {P : Addr}
def iDT (P : Addr) (ρ ρ' : Rho) (items : List Rp) : TI := fun σ H R => ∃ F B, F P = some (.tbl #[]) ∧ Evn F B H σ ρ ∧ ∀ J H' B', Same B B' → Evn (dropA F P) B' H' σ ρ' → Walk J B' items → R J H'
theorem i_listTab {ds : List PyData} {l : Expr} (h : PE X l (tET P ρ ρ0 (dat X.K (.list ds)))) : PI X tg l (iDT P ρ ρ0 (ds.map (dat X.K))) :=
  PI.weak (pi_list h) fun σ H R ⟨F, B, hP, e, q⟩ => ⟨F, B, hP, e, fun v H1 B1 s1 e1 hv => by
    obtain ⟨a, xs, rfl, h1, h2⟩ := dp_list hv
    exact ⟨a, rfl, ⟨xs, same_l e1.sp.bas h1⟩, q _ H1 B1 s1 e1 (walk_list h1 h2)⟩⟩
theorem i_listTabT {α : Type} {xs : List α} {f : α → PyData} {l : Expr} (h : PE X l (tET P ρ ρ0 (dat X.K (.list (xs.map f))))) : PI X tg l (iDT P ρ ρ0 (xs.map fun a => dat X.K (f a))) := by
  have := i_listTab (tg := tg) h
  rw [List.map_map] at this
  exact this
/-- what is asked of the block of [e for t in .. if ..], the source set aside -/
structure LcB (X : Cx) (elt tg : Expr) (ifs : List Expr) (scope : Scope) (own : List (Str × Nat)) (ρ0 : Rho) (g : TG) {α : Type} (xs : List α) (rd : α → Rp) (ρb : α → Rho) (keep : α → Bool) (f : α → PyData) : Prop where
  blk : BlkOk X.N X.env.scope scope own
  tgt : Blk X scope fun Y => PG Y tg g
  noat : NoAt ρ0 (own.map (·.2))
  tg : ∀ a ∈ xs, Tg g (own.map (·.2)) ρ0 (rd a) (ρb a)
  back : ∀ a ∈ xs, Sub (ρb a) ρ0
  test : ∀ a ∈ xs, Blk X scope fun Y => PTs Y ifs (tT (ρb a) (ρb a) (keep a))
  elem : ∀ a ∈ xs, keep a = true → Blk X scope fun Y => PE Y elt (tE (ρb a) (ρb a) (dat X.K (f a)))
  few : xs.length ≤ 1000000
theorem lcb_run {α : Type} {xs : List α} {rd : α → Rp} {ρb : α → Rho} {keep : α → Bool} {f : α → PyData} (L : LcB X elt tg ifs scope own ρ0 g xs rd ρb keep f) :
    ∃ tt te, (Blk X scope fun Y => PTs Y ifs tt) ∧ (Blk X scope fun Y => PE Y elt te) ∧
      ∀ σ J H1 Q F B1, Evn F B1 H1 σ ρ0 → Walk J B1 (xs.map rd) → (∀ a H' B', Same B1 B' → Evn F B' H' σ ρ0 → Fresh F B' H' σ ρ0 a (lstO X.K ((xs.filter keep).map f)) → Q (.ref a) H') → tLc (fun _ H R => R J H) g tt te (own.map (·.2)) σ H1 Q := by
  let ιt := { p : Rho × Bool // Blk X scope fun Y => PTs Y ifs (tT p.1 p.1 p.2) }
  let ιe := { p : Rho × PyData // Blk X scope fun Y => PE Y elt (tE p.1 p.1 (dat X.K p.2)) }
  refine ⟨fun σ H Q => ∃ p : ιt, tT p.1.1 p.1.1 p.1.2 σ H Q, fun σ H Q => ∃ p : ιe, tE p.1.1 p.1.1 (dat X.K p.1.2) σ H Q, fun s H C cl fp => PTs.any fun p => p.2 s H C cl fp, fun s H C cl fp => PE.any fun p => p.2 s H C cl fp, ?_⟩
  intro σ J H1 Q F B1 e1 wk q D hD
  have hF : F D = none := e1.noF hD
  let made : Nat → List PyData := fun i => ((xs.take i).filter keep).map f
  have made_len : ∀ i, (made i).length ≤ i := fun i => by
    show (((xs.take i).filter keep).map f).length ≤ i
    rw [List.length_map]
    refine Nat.le_trans (List.length_filter_le _ _) ?_
    rw [List.length_take]
    omega
  refine ⟨fun i n H' => ∃ B' acc, Same B1 B' ∧ Evn (upd F D (.lst acc)) B' H' σ ρ0 ∧ DpAll X.K B' acc (made i) ∧ i + n = xs.length, ⟨xs.length, B1, [], Same.refl _, e1.keepNew hD, .nil, Nat.zero_add _⟩, ?_⟩
  rintro i n H2 ⟨B2, acc, s2, e2, ha, hn⟩
  have hDat : H2 D = some (.lst acc) := e2.sp.frm D _ upd_same
  by_cases hlt : i < xs.length
  · have hx : xs[i]? = some xs[i] := List.getElem?_eq_getElem hlt
    have hm : xs[i] ∈ xs := List.getElem_mem _
    have hr : (xs.map rd)[i]? = some (rd xs[i]) := by rw [List.getElem?_map, hx]; rfl
    obtain ⟨hgo, hy⟩ := wk.go i _ B2 H2 hr s2 e2.sp.bas
    refine .inr ⟨hgo, fun H' => ∃ B' acc, Same B1 B' ∧ Evn (upd F D (.lst acc)) B' H' σ ρ0 ∧ DpAll X.K B' acc (made (i + 1)) ∧ (i + 1) + (n - 1) = xs.length, fun H' hN => ⟨n - 1, by omega, hN⟩, fun x H3 hxx => ?_⟩
    obtain ⟨B3, g3, hx3⟩ := hy x H3 hxx
    have e3 := (e2.grow g3).wiped L.noat
    refine (L.tg _ hm).run _ B3 H3 (wipe σ (own.map (·.2))) x _ e3 hx3 ?_
    intro τ' e4 hout hlen
    refine ⟨wipe_eq hout hlen, ?_⟩
    have em : made (i + 1) = if keep xs[i] = true then made i ++ [f xs[i]] else made i := by
      show ((xs.take (i + 1)).filter keep).map f = _
      rw [take_snoc hx, List.filter_append, List.map_append]
      cases hk : keep xs[i] <;> simp [hk, made]
    refine ⟨⟨(ρb xs[i], keep xs[i]), L.test _ hm⟩, _, B3, e4, fun H5 B5 s5 e5 => ?_⟩
    show if keep xs[i] = true then _ else _
    cases hk : keep xs[i] with
    | true =>
      refine iteT ⟨⟨(ρb xs[i], f xs[i]), L.elem _ hm hk⟩, _, B5, e5, fun v H6 B6 s6 e6 hv => ?_⟩
      have hD6 : H6 D = some (.lst acc) := e6.sp.frm D _ upd_same
      have hl := made_len i
      have hlen' : acc.length ≤ i := by
        rw [dps_len ha]
        exact hl
      refine ⟨acc, hD6, by have := L.few; rw [sizeLine_eq]; omega, B6, acc ++ [v], ((s2.trans g3.bup).trans s5).trans s6, ?_, ?_, by omega⟩
      · exact (((e6.less (L.back _ hm)).unwiped L.noat hout hlen)).keepMut
      · rw [em, if_pos hk]
        exact dps_app (dps_mono ((g3.bup.trans s5).trans s6) _ _ ha) (dps_one hv)
    | false =>
      refine iteF ⟨B5, acc, ((s2.trans g3.bup).trans s5), ?_, ?_, by omega⟩
      · exact (e5.less (L.back _ hm)).unwiped L.noat hout hlen
      · rw [em, if_neg (by rw [hk]; decide)]
        exact dps_mono (g3.bup.trans s5) _ _ ha
  · have hi : i = xs.length := by omega
    subst hi
    refine .inl ⟨by have := wk.stop B2 H2 s2 e2.sp.bas; rwa [List.length_map] at this, ?_⟩
    have em : made xs.length = (xs.filter keep).map f := by
      show ((xs.take xs.length).filter keep).map f = _
      rw [List.take_length]
    rw [em] at ha
    obtain ⟨e3, fr⟩ := e2.keepDrop (c := lstO X.K ((xs.filter keep).map f)) hF ⟨acc, hDat, ha⟩
    exact q D H2 B2 s2 e3 fr
/-- the list shared -/
theorem d_lcTab {α : Type} {xs : List α} {rd : α → Rp} {ρb : α → Rho} {keep : α → Bool} {f : α → PyData} (hi : PI X tg iter (iDT P ρ ρ0 (xs.map rd))) (L : LcB X elt tg ifs scope own ρ0 g xs rd ρb keep f) (hN : X.N.Nodup := by assumption) (hc : X.calm = true := by rfl) (hs : ∀ x, foldedSetIterable iter X.env x = pure x := by intro _; rfl) :
    PE X (.ListComp elt [⟨tg, iter, ifs, 0⟩] scope pos) (tET P ρ ρ0 (dat X.K (.list ((xs.filter keep).map f)))) := by
  obtain ⟨tt, te, h1, h2, h3⟩ := lcb_run L
  refine PE.weak (t := tLc (iDT P ρ ρ0 (xs.map rd)) g tt te (own.map (·.2))) (pe_lc hc hN hi L.blk L.tgt h1 h2 hs) fun σ H Q ⟨F, B, hP, e, q⟩ => ⟨F, B, hP, e, fun J H1 B1 s1 e1 wk => ?_⟩
  refine h3 σ J H1 Q _ B1 e1 wk fun a H' B' sb e2 fr => ?_
  obtain ⟨o, sB, e3, hr⟩ := e2.share fr sh_lst
  exact q _ H' _ ((s1.trans sb).trans sB) e3 hr
end
section
variable {P : Program} {w : World} {K : PySem.W.Frag} {mg : Str → Option Value} {base : Heap}
/-- as fn_tab, for a def that only calls such a one -/
theorem fn_tabP {x qual : Str} {st : Stmt} {f : Addr} {fd : FuncData} {N ps : List Str} {k : Nat} {ι : Type} {pre : ι → Prop} {rs : ι → List Rp} {r : ι → Rp} {T : Addr} (F : Fun K x qual st f fd) (S : FnScope N ps (defScope st)) (hl : ∀ i, (rs i).length = ps.length)
    (body : ∀ (cdv : Value) (A : Around) (outer : List PySem.Env) (s : Shared) (H : Hp) (E : XK) (i : ι), Room k (A.deeper (envOfC qual (defScope st) s.heap.objs.size f cdv)) → pre i →
      ∃ ρ', PSs (cxD P w K mg base N qual st f cdv A outer s H E) (defBody st) (tST T ((rs i).map Sl.per ++ List.replicate (N.length - ps.length) .no) ρ' (r i))) :
    FnOk P w K mg base CX0 (k + 1) f fd ps (spT T pre rs r) := by
  refine F.ok S (fun vs H Q E ⟨i, _, F, B, _, _, hv, _⟩ => by rw [hv.length]; exact hl i) fun cdv A outer s H vs Q E hr ⟨i, hp, Fr, B, hT, sp, hv, q⟩ => ?_
  obtain ⟨ρ', hb⟩ := body cdv A outer s H E i hr hp
  refine ⟨_, hb, ?_⟩
  have e := spl_start sp hv (N.length - ps.length)
  have hst : L2.start N vs = vs.map some ++ List.replicate (N.length - ps.length) none := by
    unfold L2.start
    rw [hv.length, hl i]
  rw [hst]
  exact ⟨Fr, B, hT, e, fun v σ' H' B' s e' hv => q v H' B' s e'.sp hv⟩
/-- the accepted sets as the law builds them -/
def setsK (g : Gm) : List (List Str) := (sortK (subsF (sortT g.names))).filter (fitsL g.cls)
theorem setsK_nil {g : Gm} (hg : GmOk g) : setsK g = [] ↔ findCon g ≠ none := by
  rw [← sets_iff hg]
  unfold setsK setsF
  rw [List.filter_eq_nil_iff, List.filter_eq_nil_iff]
  exact ⟨fun h s hs => h s (sortK_mem.mpr hs), fun h s hs => h s (sortK_mem.mp hs)⟩
theorem setsK_len {g : Gm} (hg : g.ops.length ≤ 5) : (sortK (subsF (sortT g.names))).length ≤ 32 := by
  have hnl : g.names.length ≤ 5 := by rw [show g.names.length = g.ops.length from List.length_map _]; exact hg
  rw [sortK_len, (subsF_len _).1, (sortT_perm _).length_eq]
  exact Nat.pow_le_pow_right (by decide) hnl
abbrev sp_lsets (K : PySem.W.Frag) (PS : Addr) : Sp := spT (ι := Gm) PS (fun g => g.ops.length ≤ 5) (fun g => [dat K (gmD g)]) (fun g => dat K (.list ((setsK g).map sD)))
theorem ok_lsets (T : Txt K mg) (C : TxtC K mg base T) : FnOk P w K mg base CX0 4 T.law_sets.a T.law_sets.d ["_law_grammar_here"] (sp_lsets K C.PS) := by
  have nd := sc_law_sets.nd
  refine fn_tabP T.law_sets.F sc_law_sets (fun _ => rfl) (fun cdv A outer s H E g hr hg => ?_)
  refine ⟨[.per (dat K (gmD g)), .no], b_retT (d_lcTab (xs := sortK (subsF (sortT g.names))) (rd := fun s => dat K (sD s)) (keep := fitsL g.cls) (f := sD) (ρ0 := [.per (dat K (gmD g)), .no]) (ρb := fun s => [.per (dat K (gmD g)), .per (dat K (sD s))]) (g := gName 1) (own := [("_law_some", 1)])
    (i_listTabT (d_callTab T.law_subsets (ok_lsubsets T C) g hg hr (a_cons (d_var 0) a_nil)))
    ⟨blkOk_by (N := ["_law_grammar_here", "_law_some"]) (sc := defScope s_law_sets) (by decide +kernel), (fun _ _ _ _ _ => pg_name (i := 1) nd rfl (.inl rfl)), noAt1 rfl, fun s _ => tg_name (ρ := [.per (dat K (gmD g)), .no]) (by simp), fun s _ => Sub.cons (Sub.drop Sub.nil), fun s _ _ _ _ _ _ => ts_one (t_val (d_callT T.law_fits (ok_lfits T) (g.cls, s) trivial hr (a_cons (d_ix ix_tup (opd_ixT (ds := [.tuple (g.ops.map opD), .tuple [.int g.lo, .int g.hi], .tuple (g.cls.map clD)]) (d := .tuple (g.cls.map clD)) rfl) (d_var 0) d_int) (a_cons (d_var 1) a_nil)))),
      fun s _ _ _ _ _ _ _ => d_var 1, by have := setsK_len hg; omega⟩)⟩
end
end Fc
/-! FcXa: exceptions: what is promised where a def raises Conflict. -/
namespace Fc
open PySem PySem.W PySem.Spec PySem.Calls PyProof.Rows L2
/-- the fields of such an exception -/
def xdO (K : PySem.W.Frag) (ch : List Lt) : Ow where
  p := fun a B H => ∃ u, H a = some (.xd [(("chain" : Str), u)]) ∧ (dat K (.tuple (ch.map litD))).p u B
  there := fun ⟨_, h, _⟩ => some_ne h
  mono := fun s e ⟨u, h, k⟩ => ⟨u, by rw [e]; exact h, Rp.mono _ s k⟩
/-- the exception's fields stand at d -/
def ExcAt (K : PySem.W.Frag) (C : Addr) (ch : List Lt) (F B H : Hp) (cls : Value) (d : Option Addr) : Prop :=
  cls = .ref C ∧ ∃ dd, d = some dd ∧ B dd = none ∧ F dd = none ∧ (xdO K ch).p dd B H
/-- what is told of the exceptions' classes -/
structure TxtX (K : PySem.W.Frag) (mg : Str → Option Value) (T : Txt K mg) where
  CF : Addr
  gF : mg "FlagclauseError" = some (.ref CF)
  rdF : PySem.W.readsIn K CF (.type "type") = true
  gaF : PySem.W.specialIn K (.ref CF) "__getattribute__" = some (some (.builtin "type.__getattribute__"))
  atF : PySem.W.findCls K (.ref CF) (.type "type") "__init__" = some (.val (.builtin "ValueError.__init__"))
  oex : OexC K T.C_Conflict
  noC : PySem.W.findIn K (.ref T.C_Conflict) "chain" = some none
  iC : PySem.W.findIn K (.ref T.C_Conflict) "__init__" = some (some (.ref T.Conflict_init.a))
  tI : PySem.W.typeIn K (.ref T.Conflict_init.a) = some (.type "function")
section
variable {X : Cx} {e : Expr} {es : List Expr} {ta : TA} {p1 p2 pos : Pos} {x : Str} {C0 : Addr}
/-- Base.__init__(self, ..), Base of the text, over ValueError -/
theorem pe_baseInit {pl : Sem Bool} (hg : Gl X x) (hm : X.mg x = some (.ref C0)) (rd : PySem.W.readsIn X.K C0 (.type "type") = true) (ga : PySem.W.specialIn X.K (.ref C0) "__getattribute__" = some (some (.builtin "type.__getattribute__"))) (at_ : PySem.W.findCls X.K (.ref C0) (.type "type") "__init__" = some (.val (.builtin "ValueError.__init__")))
    (ha : PA X (e :: es) ta) (hdb : (x == ("__debug__" : Str)) = false := by decide)
    (hc : eval (.Call (.Attribute (.Name x p1) "__init__" p2) (e :: es) [] pos) X.env = (do
      let ov ← eval (.Name x p1) X.env
      standAt p2.atName
      let (f, first) ← holding [ov] (getMethod ov "__init__" pl)
      callWith pos f first (backTo pos (starEach (e :: es) X.env)) (backToKw pos (keywordEach [] X.env))) := by rfl)
    (he : starEach (e :: es) X.env = (false, eval e X.env) :: starEach es X.env := by rfl) (hpl : (backTo pos (starEach es X.env)).any (·.1) = false := by rfl) :
    PE X (.Call (.Attribute (.Name x p1) "__init__" p2) (e :: es) [] pos) (tVeI X.K ta) := by
  refine ⟨fun pins s σ H Q I h => ?_⟩
  refine PySem.W.methodCall_KW (ld_glob I hg hm ?_ hdb) hc
  refine PySem.W.method_cls I.kIn ga (PySem.W.cls_value I.kIn rd at_ (by decide +kernel) ?_)
  show wpAny _ _ (callWith pos (Value.builtin "ValueError.__init__") [] (backTo pos (starEach (e :: es) X.env)) []) _ _ _
  refine PyProof.Rows.callWith_method1 (thn (ha.run pos pins _ σ H _ (I.tok _) h) fun us s1 ⟨vs, H1, I1, r1, a, C, ws, ev, hl, T, ea, q⟩ => ?_) he hpl
  subst ev
  cases r1 with
  | cons ra rw' =>
    cases ra
    have hlen := Paired.length rw'
    exact oinit_ok T I1 ea (by rw [← hlen]; exact small_sz (by omega)) fun s' J => ⟨.non, H1, J, rfl, q⟩
end
/-! ### Conflict.__init__ -/
section
variable {P : Program} {w : World} {K : PySem.W.Frag} {mg : Str → Option Value} {base : Heap}
def sp_conflict (K : PySem.W.Frag) (C : Addr) : Sp := fun vs H Q _ => ∃ a u, vs = [.ref a, u] ∧ OexC K C ∧ PySem.W.findIn K (.ref C) "chain" = some none ∧ H a = some (exo a C none) ∧ ∀ d, H d = none → d ≠ a → Q .non (upd (upd H d (exd d [(("chain" : Str), u)])) a (exo a C (some d)))
theorem ok_conflict_init (T : Txt K mg) (TX : TxtX K mg T) : FnOk P w K mg base CX0 1 T.Conflict_init.a T.Conflict_init.d ["self", "chain"] (sp_conflict K T.C_Conflict) := by
  have nd := sc_Conflict_init.nd
  refine T.Conflict_init.F.ok sc_Conflict_init (fun vs H Q E ⟨a, u, e, _⟩ => by rw [e]; rfl) fun cdv A outer s H vs Q E hr ⟨a, u, ev, oe, no, ha, q⟩ => ?_
  subst ev
  refine ⟨_, pss_cons (ps_expr (pe_baseInit (by rfl) TX.gF TX.rdF TX.gaF TX.atF (pa_cons (pe_var (i := 0) rfl (.inl rfl) (by decide) (by decide)) (pa_cons pe_str pa_nil)))) (pss_one (ps_ost (pe_var (i := 0) rfl (.inl rfl) (by decide) (by decide)) (pe_var (i := 1) rfl (.inl rfl) (by decide) (by decide)))), ?_⟩
  refine ⟨.ref a, rfl, a, T.C_Conflict, [.str "the given options are in conflict"], rfl, by show 1 ≤ 1000; decide, oe, ha, ?_⟩
  exact ⟨u, rfl, .ref a, rfl, a, T.C_Conflict, rfl, oe, no, .inl ⟨ha, fun d hd hne => q d hd hne⟩⟩
end
/-! ### readings of what raises -/
/-- an expression that raises -/
def tXE (K : PySem.W.Frag) (C : Addr) (ch : List Lt) (ρ ρ1 : Rho) (E : XK) : TE := fun σ H _ => ∃ F B, Evn F B H σ ρ ∧ ∀ cls d H' B', Same B B' → Evn F B' H' σ ρ1 → (cls = .ref C ∧ ∃ dd, d = some dd ∧ Fresh F B' H' σ ρ1 dd (xdO K ch)) → E cls d H'
/-- statements that raise -/
def tXS (K : PySem.W.Frag) (C : Addr) (ch : List Lt) (ρ : Rho) (E : XK) : TS := fun _ σ H => ∃ F B, Evn F B H σ ρ ∧ ∀ cls d H' B', Same B B' → Split F B' H' → ExcAt K C ch F B' H' cls d → E cls d H'
/-- a def that raises -/
def spX {ι : Type} (K : PySem.W.Frag) (C : Addr) (pre : ι → Prop) (rs : ι → List Rp) (ch : ι → List Lt) : Sp := fun vs H _ E => ∃ i, pre i ∧ ∃ F B, Split F B H ∧ Reps (rs i) vs B ∧ ∀ cls d H' B', Same B B' → Split F B' H' → ExcAt K C (ch i) F B' H' cls d → E cls d H'
/-- an __init__ that raises -/
def spMkX {ι : Type} (K : PySem.W.Frag) (C CI : Addr) (pre : ι → Prop) (rs : ι → List Rp) (ch : ι → List Lt) : Sp := fun vs H _ E => ∃ i, pre i ∧ ∃ F B x tl, vs = V.ref x :: tl ∧ Split F B H ∧ B x = none ∧ F x = none ∧ (insO x CI []).p x B H ∧ Reps (rs i) tl B ∧ ∀ cls d H' B', Same B B' → Split F B' H' → ExcAt K C (ch i) F B' H' cls d → E cls d H'
abbrev cxX (P : Program) (w : World) (K : PySem.W.Frag) (mg : Str → Option Value) (base : Heap) (N : List Str) (qual : Str) (st : Stmt) (f : Addr) (cdv : Value) (A : Around) (outer : List PySem.Env) (s : Shared) (H : Hp) (E : XK) : Cx :=
  cxOf (L2.CX P w) P w K mg base N qual (defScope st) f cdv A outer s H E
section
variable {P : Program} {w : World} {K : PySem.W.Frag} {mg : Str → Option Value} {base : Heap}
theorem takesX {N : List Str} {qual : Str} {st : Stmt} {f : Addr} {cdv : Value} {A : Around} {outer : List PySem.Env} {s : Shared} {H : Hp} {E : XK} : Takes (cxX P w K mg base N qual st f cdv A outer s H E) (fun cls d _ H => E cls d H) := takes_of rfl rfl rfl rfl
theorem fn_exc {x qual : Str} {st : Stmt} {f : Addr} {fd : FuncData} {N ps : List Str} {k : Nat} {ι : Type} {pre : ι → Prop} {rs : ι → List Rp} {ch : ι → List Lt} {C : Addr} (F : Fun K x qual st f fd) (S : FnScope N ps (defScope st)) (hl : ∀ i, (rs i).length = ps.length)
    (body : ∀ (cdv : Value) (A : Around) (outer : List PySem.Env) (s : Shared) (H : Hp) (E : XK) (i : ι), Room k (A.deeper (envOfC qual (defScope st) s.heap.objs.size f cdv)) → pre i →
      PSs (cxX P w K mg base N qual st f cdv A outer s H E) (defBody st) (tXS K C (ch i) ((rs i).map Sl.per ++ List.replicate (N.length - ps.length) .no) E)) :
    FnOk P w K mg base (L2.CX P w) (k + 1) f fd ps (spX K C pre rs ch) := by
  refine Fun.okX F S (fun vs H Q E ⟨i, _, F, B, _, hv, _⟩ => by rw [hv.length]; exact hl i) fun cdv A outer s H vs Q E hr ⟨i, hp, Fr, B, sp, hv, q⟩ => ?_
  refine ⟨_, body cdv A outer s H E i hr hp, ?_⟩
  have hst : L2.start N vs = vs.map some ++ List.replicate (N.length - ps.length) none := by
    unfold L2.start
    rw [hv.length, hl i]
  rw [hst]
  exact ⟨Fr, B, spl_start sp hv (N.length - ps.length), q⟩
theorem fn_mkX {x qual : Str} {st : Stmt} {f : Addr} {fd : FuncData} {N ps : List Str} {k : Nat} {ι : Type} {C CI : Addr} {pre : ι → Prop} {rs : ι → List Rp} {ch : ι → List Lt} (F : Fun K x qual st f fd) (S : FnScope N ps (defScope st)) (hl : ∀ i, (rs i).length + 1 = ps.length)
    (body : ∀ (cdv : Value) (A : Around) (outer : List PySem.Env) (s : Shared) (H : Hp) (E : XK) (i : ι) (x0 : Addr), Room k (A.deeper (envOfC qual (defScope st) s.heap.objs.size f cdv)) → pre i →
      PSs (cxX P w K mg base N qual st f cdv A outer s H E) (defBody st) (tXS K C (ch i) (Sl.own (insO x0 CI []) :: ((rs i).map Sl.per ++ List.replicate (N.length - ps.length) .no)) E)) :
    FnOk P w K mg base (L2.CX P w) (k + 1) f fd ps (spMkX K C CI pre rs ch) := by
  refine Fun.okX F S (fun vs H Q E ⟨i, _, F, B, x, tl, e, _, _, _, _, hv, _⟩ => by rw [e, List.length_cons, hv.length]; exact hl i) fun cdv A outer s H vs Q E hr ⟨i, hp, Fr, B, x, tl, ev, sp, hB, hF, hc, hv, q⟩ => ?_
  subst ev
  refine ⟨_, body cdv A outer s H E i x hr hp, ?_⟩
  have hst : L2.start N (V.ref x :: tl) = some (.ref x) :: (tl.map some ++ List.replicate (N.length - ps.length) none) := by
    unfold L2.start
    rw [List.length_cons, hv.length, hl i]
    rfl
  rw [hst]
  exact ⟨Fr, B, mk_start sp hv hB hF hc (N.length - ps.length), q⟩
end
section
variable {X : Cx} {st : Stmt} {rest' : List Stmt} {ρ ρ1 : Rho} {K : PySem.W.Frag} {C : Addr} {ch : List Lt} {E : XK} {e : Expr} {pos pos' : Pos} {x : Str}
theorem b_consX (h1 : PS X st (tS ρ (.nx ρ1))) (h2 : PSs X rest' (tXS K C ch ρ1 E)) : PSs X (st :: rest') (tXS K C ch ρ E) :=
  PSs.weak (pss_cons h1 h2) fun D σ H ⟨F, B, e, q⟩ => ⟨F, B, e, fun σ' H' B' s e' => ⟨F, B', e', fun cls d H2 B2 s2 sp ex => q cls d H2 B2 (s.trans s2) sp ex⟩⟩
theorem b_lastX (h : PS X st (tXS K C ch ρ E)) : PSs X (st :: rest') (tXS K C ch ρ E) := PSs.weak (pss_cons h pss_never) fun D σ H h => h
theorem s_setX (i : Nat) (he : PE X e (tXE K C ch ρ ρ1 E)) (hN : X.N.Nodup := by assumption) (hi : X.N[i]? = some x := by rfl) (hx : Loc X.env.scope x := by first | exact Or.inl rfl | exact Or.inr rfl) (hs : swapsWith e (some (.Name x pos')) pos.line X.env = pure false := by rfl)
    (hf : X.fn x = true ∨ X.env.scope.names.lookup x = some .local := by first | exact .inl rfl | exact .inr rfl) : PS X (.Assign [.Name x pos'] e pos) (tXS K C ch ρ E) :=
  PS.weak (ps_set hN hi hx he hs hf) fun D σ H ⟨F, B, ev, q⟩ => ⟨F, B, ev, fun cls d H' B' s e' ⟨ec, dd, ed, f⟩ => q cls d H' B' s e'.sp ⟨ec, dd, ed, f.nb, f.nf, f.at_⟩⟩
theorem s_retX (he : PE X e (tXE K C ch ρ ρ1 E)) : PS X (.Return (some e) pos) (tXS K C ch ρ E) :=
  PS.weak (ps_ret he) fun D σ H ⟨F, B, ev, q⟩ => ⟨F, B, ev, fun cls d H' B' s e' ⟨ec, dd, ed, f⟩ => q cls d H' B' s e'.sp ⟨ec, dd, ed, f.nb, f.nf, f.at_⟩⟩
/-- what a slot owns is shared from here on -/
theorem b_shareX (i : Nat) {cw : Ow} {r' : Rp} (sh : Shares cw r') (h : PSs X rest' (tXS K C ch (ρ.set i (.per r')) E)) (hi : ρ[i]? = some (.own cw) := by rfl) : PSs X rest' (tXS K C ch ρ E) := PSs.weak h fun D σ H ⟨F, B, e, q⟩ => by
  obtain ⟨a, h1, h2, h3, h4⟩ := e.own i cw hi
  obtain ⟨ob, ho, hr⟩ := sh a B H h2 h4
  obtain ⟨sB, e2⟩ := e.freeze hi h1 ho hr
  exact ⟨F, _, e2, fun cls d H' B' s sp ex => q cls d H' B' (sB.trans s) sp ex⟩
/-- if c: raise .. (taken) -/
theorem s_ifX {c : Expr} {bd : List Stmt} (hc : PT X c (tT ρ ρ1 true)) (ha : PSs X bd (tXS K C ch ρ1 E)) : PS X (.If c bd [] pos) (tXS K C ch ρ E) :=
  PS.weak (ps_if hc ha never_b) fun D σ H ⟨F, B, e, q⟩ => ⟨F, B, e, fun H' B' s e' => iteT ⟨F, B', e', fun cls d H2 B2 s2 sp ex => q cls d H2 B2 (s.trans s2) sp ex⟩⟩
end
/-- what is new behind a call is new to the caller -/
theorem fresh_back {F B H B' H' : Hp} {σ : L2.St} {ρ : Rho} {a : Addr} {c : Ow} (e : Evn F B H σ ρ) (nb : B' a = none) (nf : Fc.rest B H a = none) (h : c.p a B' H') : Fresh F B' H' σ ρ a c where
  nb := nb
  nf := by
    cases z : F a with
    | none => rfl
    | some o => rw [rest_of (e.sp.dis _ _ z) (e.sp.frm _ _ z)] at nf; cases nf
  no := fun j d hj hs => by
    obtain ⟨b, h1, h2, h3, h4⟩ := e.own j d hj
    rw [hs] at h1
    cases h1
    obtain ⟨o, ho⟩ := ne_some (d.there h4)
    rw [rest_of h2 ho] at nf
    cases nf
  at_ := h
section
variable {X : Cx} {p pos : Pos} {e : Expr} {es : List Expr} {ρ ρ1 : Rho} {rs : List Rp} {x : Str} {C : Addr} {E : XK} {k : Nat} {ps : List Str} {st : Stmt} {ι : Type} {pre : ι → Prop} {rsf : ι → List Rp} {chf : ι → List Lt} {ch : List Lt}
/-- a call that raises -/
theorem d_callX (G : GlT X.K X.mg x st ps) (F : FnOk X.prog X.w X.K X.mg X.base (L2.CX X.prog X.w) k G.a G.d ps (spX X.K C pre rsf chf)) (i : ι) (hp : pre i) (tk : Takes X (fun cls d _ H => E cls d H)) {kk : Nat} (hr : Room kk X.A) (ha : PA X (e :: es) (tAs ρ ρ1 rs))
    (h1 : rsf i = rs := by rfl) (h2 : chf i = ch := by rfl) (hkk : k ≤ kk := by decide) (hg : Gl X x := by rfl) (hdb : (x == ("__debug__" : Str)) = false := by decide) (he : starEach (e :: es) X.env = (false, eval e X.env) :: starEach es X.env := by rfl) (hpl : (backTo pos (starEach es X.env)).any (·.1) = false := by rfl) :
    PE X (.Call (.Name x p) (e :: es) [] pos) (tXE X.K C ch ρ ρ1 E) := by
  subst h1 h2
  refine PE.weak (pe_call F (E := E) (hr.mono hkk) hg G.g G.F.kp G.b (.nil : Vals [] []) (passes_call tk fun _ _ _ _ h => h) ha hdb he hpl) fun σ H Q ⟨Fr, B, ev, q⟩ => ⟨Fr, B, ev, fun vs H1 B1 s1 e1 hvs => ?_⟩
  exact ⟨i, hp, Fc.rest B1 H1, B1, e1.sp.rest, by rw [List.append_nil]; exact hvs, fun cls d H' B' sb sp ⟨ec, dd, ed, nb, nf, at_⟩ => q cls d H' B' (s1.trans sb) (e1.back sb sp) ⟨ec, dd, ed, fresh_back e1 nb nf at_⟩⟩
/-- C(..) that raises -/
theorem d_makeX {f CI : Addr} {fd : FuncData} (M : Mk X.K CI f) (F : FnOk X.prog X.w X.K X.mg X.base (L2.CX X.prog X.w) k f fd ps (spMkX X.K C CI pre rsf chf)) (i : ι) (hp : pre i) (tk : Takes X (fun cls d _ H => E cls d H)) (hr : Room (k + 1) X.A) (hg : Gl X x) (hm : X.mg x = some (.ref CI)) (hb : Binds X.K fd ps []) (ha : PA X (e :: es) (tAs ρ ρ1 rs)) (h1 : rsf i = rs) (h2 : chf i = ch)
    (hdb : (x == ("__debug__" : Str)) = false := by decide) (he : starEach (e :: es) X.env = (false, eval e X.env) :: starEach es X.env := by rfl) (hpl : (backTo pos (starEach es X.env)).any (·.1) = false := by rfl) :
    PE X (.Call (.Name x p) (e :: es) [] pos) (tXE X.K C ch ρ ρ1 E) := by
  subst h1 h2
  refine PE.weak (pe_make (E := E) M F hr hg hm hb (.nil : Vals [] []) (passes_call tk fun _ _ _ _ h => h) ha hdb he hpl) fun σ H Q ⟨Fr, B, ev, q⟩ => ⟨Fr, B, ev, fun vs H1 B1 s1 e1 hvs x dx hx hdx hne => ?_⟩
  have sp1 : Split (Fc.rest B1 H1) B1 (upd (upd H1 dx (.own x)) x (.ins CI dx [])) := (e1.sp.rest.grow (Grow.lone e1.sp.bas hdx)).grow (Grow.lone (e1.sp.bas.trans (same_new hdx)) (by rw [upd_ne (Ne.symm hne)]; exact hx))
  refine ⟨i, hp, Fc.rest B1 H1, B1, x, vs, by rw [List.append_nil], sp1, free_back e1.sp.bas hx, ?_, ⟨rfl, dx, [], upd_same, .nil⟩, hvs, fun cls d H' B' s sp ⟨ec, dd, ed, nb, nf, at_⟩ => q cls d H' B' (s1.trans s) (e1.back s sp) ⟨ec, dd, ed, fresh_back e1 nb nf at_⟩⟩
  cases z : Fc.rest B1 H1 x with
  | none => rfl
  | some u =>
    have := (rest_some z).2
    rw [hx] at this
    cases this
end
end Fc
/-! FcXb: Completion.__init__, completion_of, verdicts where they raise Conflict. -/
namespace Fc
open PySem PySem.W PySem.Spec PySem.Calls PyProof.Rows L2
section
variable {P : Program} {w : World} {K : PySem.W.Frag} {mg : Str → Option Value} {base : Heap}
theorem s_raiseC (T : Txt K mg) (TX : TxtX K mg T) {X : Cx} {e : Expr} {p pos pos2 : Pos} {ρ ρ1 : Rho} {ch : List Lt} {E : XK} (hX : X.K = K) (hM : X.mg = mg) (tk : Takes X (fun cls d _ H => E cls d H)) (hr : Room 2 X.A) (he : PE X e (tE ρ ρ1 (dat X.K (.tuple (ch.map litD))))) (hc : X.calm = true := by rfl) (hg : Gl X "Conflict" := by rfl)
    (hs : starEach (e :: []) X.env = (false, eval e X.env) :: starEach [] X.env := by rfl) (hpl : (backTo pos (starEach [] X.env)).any (·.1) = false := by rfl) :
    PS X (.Raise (some (.Call (.Name "Conflict" p) [e] [] pos)) none pos2) (tXS X.K T.C_Conflict ch ρ E) := by
  subst hX hM
  refine PS.weak (ps_raise hc tk (pmk_oex TX.oex TX.iC TX.tI (ok_conflict_init T TX) hr T.Conflict_init.b (.nil : Vals [] []) pass0 hg T.gC_Conflict (a_cons he a_nil hs) (by decide) hs hpl)) fun D σ H ⟨F, B, ev, q⟩ => ⟨F, B, ev, fun vs H1 B1 s1 e1 hv => ?_⟩
  cases hv with
  | cons hv0 hvn =>
  cases hvn
  rename_i u
  refine ⟨by show 1 ≤ 1000; decide, fun a na => ⟨a, u, rfl, TX.oex, TX.noC, upd_same, fun d hd hda => ?_⟩⟩
  have hd1 : H1 d = none := by rw [upd_ne hda] at hd; exact hd
  refine ⟨rfl, d, _, upd_same, by rw [upd_ne hda, upd_same], hd1, ?_⟩
  have at_ : ∀ b o, H1 b = some o → upd (del (upd (upd (upd H1 a (exo a T.C_Conflict none)) d (exd d [(("chain" : Str), u)])) a (exo a T.C_Conflict (some d))) a) d (.xd [(("chain" : Str), u)]) b = some o := fun b o h => by
    have hba : b ≠ a := fun z => by rw [z, na] at h; cases h
    have hbd : b ≠ d := fun z => by rw [z, hd1] at h; cases h
    rw [upd_ne hbd, del_ne hba, upd_ne hba, upd_ne hbd, upd_ne hba]
    exact h
  exact q _ _ _ B1 s1 ⟨fun b o h => at_ b o (e1.sp.bas b o h), fun b o h => at_ b o (e1.sp.frm b o h), e1.sp.dis⟩ ⟨rfl, d, rfl, free_back e1.sp.bas hd1, e1.noF hd1, u, upd_same, hv0⟩
/-- there is a conflict -/
structure ConfOk (g : Gm) (ns : List Str) (ch : List Lt) : Prop where
  gv : GvOk g ns
  sat : findCon g = none
  con : conflC g (gvS ns) = some ch
abbrev sp_completionX (P : Program) (w : World) (K : PySem.W.Frag) (C CC : Addr) : Sp := spMkX (ι := Gm × List Str × List Lt) K CC C (fun i => ConfOk i.1 i.2.1 i.2.2) (fun i => [dat K (gmD i.1), dat K (.list (i.2.1.map .str))]) (fun i => i.2.2)
theorem ok_completion_initX (T : Txt K mg) (TX : TxtX K mg T) : FnOk P w K mg base (L2.CX P w) 6 T.Completion_init.a T.Completion_init.d ["self", "grammar", "given"] (sp_completionX P w K T.C_Completion T.C_Conflict) := by
  have nd := sc_Completion_init.nd
  refine fn_mkX T.Completion_init.F sc_Completion_init (fun _ => rfl) (fun cdv A outer s H E i x0 hr hi => ?_)
  obtain ⟨g, ns, ch⟩ := i
  obtain ⟨hgv, _, hc⟩ := hi
  dsimp only at hgv hc
  have h128 := hu128 hr
  have hu64 := hr.units
  have hz := hgv.few
  have hz2 := hgv.few'
  have fg : FldOf K T.C_Completion "graph" (atR (cpR P w K T.C_Completion T.C_ImplicationGraph g (gvS ns)) x0) (grR P w K T.C_ImplicationGraph g) := fun v B h => cp_graph v B h.2
  have fv : FldOf K T.C_Completion "given" (atR (cpR P w K T.C_Completion T.C_ImplicationGraph g (gvS ns)) x0) (dat K (.list ((gvS ns).map .str))) := fun v B h => cp_given v B h.2
  exact b_consX (s_fld (x0 := x0) (fs := []) (f := "graph") 0 (d_callT T.graph_of (ok_graph_of T) g hgv.gm hr (a_cons (d_var 1) a_nil)) T.cl_Completion T.n_Completion_graph (fun _ h => nomatch h) (by decide))
    (b_consX (s_fld (x0 := x0) (fs := [(("graph" : Str), grR P w K T.C_ImplicationGraph g)]) (f := "given") 0 (d_sortSetS (ks := ns) (dd := dd ns) h128 T.z_sorted (d_setS hu64 T.z_set (d_var 2) (.inl rfl) (by omega)) (dd_nodup ns) (fun k => dd_mem) (Nat.le_trans (dd_len ns) (by omega))) T.cl_Completion T.n_Completion_given (fun p hp => by rw [List.mem_singleton.mp hp]; show ("graph" : Str) ≠ "given"; decide) (by show 1 < 1000; decide))
    (b_shareX 0 (sh_cp (P := P) (w := w) (K := K) (C := T.C_Completion) (CG := T.C_ImplicationGraph) (x0 := x0) (g := g) (ns := gvS ns))
    (b_consX (s_set 3 (d_callT T.conflict_chain (ok_conflict_chain T) (g, gvS ns) ⟨hgv.gm, hgv.nm', Nat.le_trans hz2 (by decide)⟩ hr (a_cons (d_fld fg T.cl_Completion T.n_Completion_graph (d_var 0)) (a_cons (d_fld fv T.cl_Completion T.n_Completion_given (d_var 0)) a_nil))))
    (b_lastX (s_ifX (t_cmp op_notN (opd_notN (d := oD (conflC g (gvS ns))) (by rw [hc]; rfl)) (d_var 3) d_non)
      (b_lastX (s_raiseC T TX rfl rfl takesX (hr.mono (by decide)) (d_tupOf T.z_tuple (d_eq (d_var 3) (by rw [hc]; rfl))))))))))
abbrev sp_completion_ofX (K : PySem.W.Frag) (CC : Addr) : Sp := spX (ι := Gm × List Str × List Lt) K CC (fun i => ConfOk i.1 i.2.1 i.2.2) (fun i => [dat K (gmD i.1), dat K (.list (i.2.1.map .str))]) (fun i => i.2.2)
theorem ok_completion_ofX (T : Txt K mg) (TX : TxtX K mg T) : FnOk P w K mg base (L2.CX P w) 8 T.completion_of.a T.completion_of.d ["grammar", "given"] (sp_completion_ofX K T.C_Conflict) := by
  have nd := sc_completion_of.nd
  refine fn_exc T.completion_of.F sc_completion_of (fun _ => rfl) (fun cdv A outer s H E i hr hi => ?_)
  obtain ⟨g, ns, ch⟩ := i
  have hf := hi
  obtain ⟨hgv, hs, hc⟩ := hi
  dsimp only at hgv hs hc
  exact b_consX (s_expr (d_callT T.check_grammar (ok_check_grammar T) g hgv.gm hr (a_cons (d_var 0) a_nil)))
    (b_consX (s_expr (d_callT T.check_names (ok_check_names T) (g, ns) ⟨(GmOk.len hgv.gm).2, hgv.nm⟩ hr (a_cons (d_var 0) (a_cons (d_var 1) a_nil))))
    (b_consX (s_expr (d_callT T.check_satisfiable (ok_check_satisfiable T) g ⟨hgv.gm, hs⟩ hr (a_cons (d_var 0) a_nil)))
    (b_lastX (s_retX (d_makeX T.mk_Completion (ok_completion_initX T TX) (g, ns, ch) hf takesX hr rfl T.gC_Completion T.Completion_init.b (a_cons (d_var 0) (a_cons (d_var 1) a_nil)) rfl rfl)))))
abbrev sp_verdictsX (K : PySem.W.Frag) (CC : Addr) : Sp := spX (ι := Gm × List Str × List Lt) K CC (fun i => ConfOk i.1 i.2.1 i.2.2) (fun i => [dat K (gmD i.1), dat K (.list (i.2.1.map .str))]) (fun i => i.2.2)
theorem ok_verdictsX (T : Txt K mg) (TX : TxtX K mg T) : FnOk P w K mg base (L2.CX P w) 9 T.verdicts.a T.verdicts.d ["grammar", "given"] (sp_verdictsX K T.C_Conflict) := by
  have nd := sc_verdicts.nd
  refine fn_exc T.verdicts.F sc_verdicts (fun _ => rfl) (fun cdv A outer s H E i hr hi => ?_)
  obtain ⟨g, ns, ch⟩ := i
  exact b_lastX (s_setX 2 (d_callX T.completion_of (ok_completion_ofX T TX) (g, ns, ch) hi takesX hr (a_cons (d_var 0) (a_cons (d_var 1) a_nil))))
end
end Fc
/-! FcXc: rules for the except suite: isinstance, e.chain, xs.count, xs.index. -/
namespace Fc
open PySem PySem.W PySem.Spec PySem.Calls PyProof.Rows L2
/-! ### xs.count(y), xs.index(y) of flat values -/
def rCntV (K : PySem.W.Frag) : V → List V → Hp → VK → Prop := fun x xs H Q => ∃ (p : Addr) (ys : List V) (y : V), x = .ref p ∧ xs = [y] ∧ SqL K H p ys ∧ flatV y = true ∧ ys.all flatV = true ∧ Q (.int (ys.countP (fun z => eqV z y) : Nat)) H
theorem count_vals {y : V} : ∀ {ys : List V} {us : List Value}, Vals ys us → ys.all flatV = true → us.countP (eqU y) = ys.countP (fun z => eqV z y)
  | _, _, .nil, _ => rfl
  | z :: ys, u :: us, .cons r t, f => by
    rw [List.all_cons, Bool.and_eq_true] at f
    rw [List.countP_cons, List.countP_cons, count_vals t f.2, eqU_of r f.1]
theorem mt_countV {X : Cx} : MtR X "list.count" (rCntV X.K) := by
  intro pins s σ H x xs v us Q I rx rxs h
  obtain ⟨p, ys, y, rfl, rfl, hs, fy, fys, q⟩ := h
  cases rx
  obtain ⟨u, rfl, ru⟩ := rxs.one
  obtain ⟨its, rv, ⟨⟨cls, dd, data, sl⟩, n, ho, hc, hdn, hd⟩, hlen⟩ := I.list hs
  simp only at hc hd
  subst hc hd
  have ec : its.toArray.toList.countP (eqU y) = ys.countP (fun z => eqV z y) := by simpa using count_vals rv fys
  refine call_meets PySem.F.slot_list_count ⟨_, ho, rfl⟩ PySem.F.entry_list_count (PySem.F.args_list_count_2 _ _) (SeqAt.list_countAt p its.toArray n dd sl u (eqU y)) ⟨ho, fun z hz => mem_eqAt ru fy rv fys z (by simpa using hz), ?_⟩
  refine ⟨.int (ys.countP (fun z => eqV z y) : Nat), H, I.tok _, ⟨s.toks, ?_⟩, q⟩
  show Value.int ((its.toArray.toList.countP (eqU y) : Nat) : Int) s.toks = _
  rw [ec]
theorem dps_bools {K : PySem.W.Frag} {H : Hp} : ∀ {vs : List V} {bs : List Bool}, DpAll K H vs (bs.map .bool) → vs = bs.map V.bl
  | _, [], h => by cases h; rfl
  | _, b :: bs, h => by
    rw [List.map_cons] at h
    cases h with
    | cons h t => rw [dp_bl h, dps_bools t]; rfl
theorem bools_flat : ∀ bs : List Bool, (bs.map V.bl).all flatV = true
  | [] => rfl
  | _ :: bs => by rw [List.map_cons, List.all_cons, bools_flat bs]; rfl
theorem bools_count (b : Bool) : ∀ bs : List Bool, (bs.map V.bl).countP (fun z => eqV z (.bl b)) = bs.count b
  | [] => rfl
  | c :: bs => by
    rw [List.map_cons, List.countP_cons, List.count_cons, bools_count b bs]
    cases b <;> cases c <;> rfl
section
variable {X : Cx} {ρ ρ1 ρ2 : Rho} {o e : Expr} {bs : List Bool} {b : Bool} {apos cpos : Pos}
theorem d_countB {n : Int} (ho : PE X o (tE ρ ρ1 (dat X.K (.list (bs.map .bool))))) (he : PE X e (tE ρ1 ρ2 (dat X.K (.bool b)))) (hn : ((bs.count b : Nat) : Int) = n) (hbase : attributeBase o "count" X.env (eval o X.env) = eval o X.env := by rfl)
    (hfew : ((backTo cpos (starEach [e] X.env)).all (fun x => !x.1) && (backToKw cpos (keywordEach [] X.env)).all (fun x => x.1.isSome)
      && decide (([e] : List Expr).length + ([] : List Keyword).length + (if ([] : List Keyword).isEmpty then 0 else 1) < 30)) = true := by rfl)
    (hline : (apos.endLine == cpos.line) = true := by rfl) (hs : starEach [e] X.env = (false, eval e X.env) :: starEach [] X.env := by rfl) : PE X (.Call (.Attribute o "count" apos) [e] [] cpos) (tE ρ ρ2 (dat X.K (.int n))) := by
  subst hn
  exact PE.weak (pe_bm PySem.F.plainAttrs_list PySem.F.slot_list_count PySem.F.type_list_count mt_countV ho (a_cons he a_nil hs) hbase hfew hline hs rfl) fun σ H Q ⟨F, B, e0, q⟩ => ⟨F, B, e0, fun v H1 B1 s1 e1 hv => by
    obtain ⟨a, xs, rfl, h1, h2⟩ := dp_list hv
    obtain rfl := dps_bools h2
    refine ⟨.inl ⟨rfl, _, same_l e1.sp.bas h1⟩, F, B1, e1, fun ys H2 B2 s2 e2 hy => ?_⟩
    cases hy with
    | cons hy t =>
    cases t
    obtain rfl := dp_bl hy
    refine ⟨a, _, .bl b, rfl, rfl, same_l (s2.trans e2.sp.bas) h1, rfl, bools_flat bs, ?_⟩
    rw [bools_count]
    exact q _ H2 B2 (s1.trans s2) e2 (Dp.int _)⟩
theorem d_indexB {j : Nat} (hj : bs[j]? = some b) (hno : ∀ m c, m < j → bs[m]? = some c → c ≠ b) (ho : PE X o (tE ρ ρ1 (dat X.K (.list (bs.map .bool))))) (he : PE X e (tE ρ1 ρ2 (dat X.K (.bool b)))) (hbase : attributeBase o "index" X.env (eval o X.env) = eval o X.env := by rfl)
    (hfew : ((backTo cpos (starEach [e] X.env)).all (fun x => !x.1) && (backToKw cpos (keywordEach [] X.env)).all (fun x => x.1.isSome)
      && decide (([e] : List Expr).length + ([] : List Keyword).length + (if ([] : List Keyword).isEmpty then 0 else 1) < 30)) = true := by rfl)
    (hline : (apos.endLine == cpos.line) = true := by rfl) (hs : starEach [e] X.env = (false, eval e X.env) :: starEach [] X.env := by rfl) : PE X (.Call (.Attribute o "index" apos) [e] [] cpos) (tE ρ ρ2 (dat X.K (.int (j : Int)))) := by
  exact PE.weak (pe_bm PySem.F.plainAttrs_list PySem.F.slot_list_index PySem.F.type_list_index mt_index ho (a_cons he a_nil hs) hbase hfew hline hs rfl) fun σ H Q ⟨F, B, e0, q⟩ => ⟨F, B, e0, fun v H1 B1 s1 e1 hv => by
    obtain ⟨a, xs, rfl, h1, h2⟩ := dp_list hv
    obtain rfl := dps_bools h2
    refine ⟨.inl ⟨rfl, _, same_l e1.sp.bas h1⟩, F, B1, e1, fun ys H2 B2 s2 e2 hy => ?_⟩
    cases hy with
    | cons hy t =>
    cases t
    obtain rfl := dp_bl hy
    refine ⟨a, _, .bl b, j, .bl b, rfl, rfl, same_l (s2.trans e2.sp.bas) h1, rfl, bools_flat bs, by rw [List.getElem?_map, hj]; rfl, by cases b <;> rfl, fun m z hm hz => ?_, q _ H2 B2 (s1.trans s2) e2 (Dp.int _)⟩
    rw [List.getElem?_map] at hz
    obtain ⟨c, hc, rfl⟩ := Option.map_eq_some_iff.mp hz
    have := hno m c hm hc
    cases b <;> cases c <;> first | rfl | exact absurd rfl this⟩
end
/-! ### the caught exception -/
/-- a: the exception; dd: its fields -/
def excR (K : PySem.W.Frag) (a dd : Addr) (ch : List Lt) : Rp := ⟨fun v B => v = .ref a ∧ ∃ u, B dd = some (.xd [(("chain" : Str), u)]) ∧ (dat K (.tuple (ch.map litD))).p u B, fun s ⟨h, u, h1, h2⟩ => ⟨h, u, s _ _ h1, Rp.mono _ s h2⟩⟩
/-- a value that is told -/
def vR (v : V) : Rp := ⟨fun x _ => x = v, fun _ h => h⟩
/-- what Conflict's class says of its instances -/
structure TxtI (K : PySem.W.Frag) (C : Addr) : Prop where
  cls : (PySem.W.clsIn K C).isSome = true
  ga : PySem.W.findIn K (.ref C) "__getattribute__" = some (some (.builtin "BaseException.__getattribute__"))
  gt : PySem.W.findIn K (.ref C) "__getattr__" = some none
  sub : PySem.W.subIn K (.ref C) (.type "BaseException") = some true
  at_ : PySem.W.findIn K (.ref C) "__class__" = some (some (.builtin "object.__class__"))
  hn : PySem.W.specialIn K (.builtin "object.__class__") "__get__" = some (some (.builtin "getset_descriptor.__get__"))
  tk : PySem.W.takesIn K (.builtin "object.__class__") = some true
  mro : PySem.W.mroIn K C (.type "object") = some true
  xf : XfC K C
  no : PySem.W.findIn K (.ref C) "chain" = some none
section
variable {X : Cx} {a C : Addr} {oe : Obj} {cls : Value} {d : Option Addr} {pn : List (Addr × Obj)}
def rIsX (K : PySem.W.Frag) (C a : Addr) (d : Option Addr) : List V → Hp → VK → Prop := fun xs H Q => ∃ (c : V) (cv : Value) (b : Bool) (dd : Addr) (fs : List (Str × V)), xs = [.ref a, c] ∧ d = some dd ∧ H dd = some (.xd fs) ∧ (∀ u, RelV c u → u = cv) ∧ PySem.W.kitOne K (.ref C) cv = some b ∧ Q (.bl b) H
theorem call_isX (TI : TxtI X.K C) (hz : Zc (.ref C) d oe) (hf : ∃ vs, oe.data = .fields vs) : CallR (X.suite a ((a, oe) :: pn)) (.builtin "isinstance") (rIsX X.K C a d) := by
  intro pins s σ H xs us Q I r ⟨c, cv, b, dd, fs, ex, ed, hdd, hcv, e, q⟩
  subst ex ed
  cases r with
  | cons rx rr =>
  cases rr with
  | cons rt rr =>
  cases rr
  cases rx
  obtain rfl := hcv _ rt
  obtain ⟨hget, _⟩ := I.pin (a, oe) (List.mem_append.mpr (.inl List.mem_cons_self))
  obtain ⟨vs, hv⟩ := hf
  obtain ⟨mA, hns, _⟩ : ObjOk X.prog X.w H s.heap dd (.xd fs) := I.hok dd _ hdd
  obtain ⟨od, ho, _⟩ := lookIn_ns hns
  have J : PySem.W.InstAt s.heap a oe C (some od) := ⟨hget, hz.1, by unfold PySem.W.notCls; rw [hv] <;> rfl, by rw [hz.2]; exact ho⟩
  exact PySem.W.kia_one (PySem.W.kitx_exc TI.cls TI.ga TI.gt TI.sub TI.at_ TI.hn TI.tk TI.mro) I.kIn J e (fun z => nomatch z) fun tk => ⟨.bl b, H, I.kept (t' := tk) fun _ _ z => z, rfl, q⟩
variable {dd : Addr} {ch : List Lt} {ρ ρ1 ρ2 : Rho} {e c : Expr} {p pos : Pos}
/-- isinstance(e, c) -/
theorem d_isX {v : V} {cv : Value} {b : Bool} (TI : TxtI X.K C) (hz : Zc (.ref C) (some dd) oe) (hf : ∃ vs, oe.data = .fields vs) (hm : X.mg "isinstance" = none) (hcv : ∀ u, RelV v u → u = cv) (hk : PySem.W.kitOne X.K (.ref C) cv = some b) (he : PE (X.suite a ((a, oe) :: pn)) e (tE ρ ρ1 (excR X.K a dd ch))) (hc : PE (X.suite a ((a, oe) :: pn)) c (tE ρ1 ρ2 (vR v)))
    (hg : Gl (X.suite a ((a, oe) :: pn)) "isinstance" := by rfl) (hs : starEach [e, c] X.env = (false, eval e X.env) :: starEach [c] X.env := by rfl) (hs2 : starEach [c] X.env = (false, eval c X.env) :: starEach [] X.env := by rfl) (hpl : (backTo pos (starEach [c] X.env)).any (·.1) = false := by rfl) :
    PE (X.suite a ((a, oe) :: pn)) (.Call (.Name "isinstance" p) [e, c] [] pos) (tE ρ ρ2 (dat X.K (.bool b))) :=
  d_callB (X := X.suite a ((a, oe) :: pn)) (call_isX TI hz hf) (fun B H vs Q s hv q => by
    cases hv with
    | cons h1 t =>
    cases t with
    | cons h2 t =>
    cases t
    obtain ⟨rfl, u, hu, _⟩ := h1
    obtain rfl := h2
    exact ⟨_, cv, b, dd, _, rfl, rfl, s _ _ hu, hcv, hk, q _ B H (Grow.refl s) (Dp.bl _)⟩) hg hm (by decide +kernel) (a_cons he (a_cons hc a_nil hs2) hs) (by decide) (by decide) hs hpl
/-- e.chain -/
theorem d_excCh (TI : TxtI X.K C) (hz : Zc (.ref C) (some dd) oe) (hf : ∃ vs, oe.data = .fields vs) (he : PE (X.suite a ((a, oe) :: pn)) e (tE ρ ρ1 (excR X.K a dd ch))) (hb : attributeBase e "chain" X.env (eval e X.env) = eval e X.env := by rfl) :
    PE (X.suite a ((a, oe) :: pn)) (.Attribute e "chain" pos) (tE ρ ρ1 (dat X.K (.tuple (ch.map litD)))) :=
  PE.weak (pe_xf (n := "chain") TI.xf TI.no hz hf he hb) fun σ H Q ⟨F, B, ev, q⟩ => ⟨F, B, ev, fun v H1 B1 s1 e1 ⟨hv, u, hu, hr⟩ => ⟨hv, rfl, dd, _, u, rfl, e1.sp.bas _ _ hu, rfl, q u H1 B1 s1 e1 hr⟩⟩
/-- a name of the top, its value told -/
theorem d_glV {Y : Cx} {x : Str} {A : Addr} (hm : Y.mg x = some (.ref A)) (hg : Gl Y x := by rfl) (hd : (x == ("__debug__" : Str)) = false := by decide) : PE Y (.Name x pos) (tE ρ ρ (vR (.ref A))) := d_glob (v := .ref A) (fun _ => rfl) hg hm rfl hd
theorem d_tyV {Y : Cx} {x : Str} {n : String} (hm : Y.mg x = none) (hv : bootBuiltins x = some (.type n)) (hg : Gl Y x := by rfl) (hn : x ≠ "__name__" := by decide) (hd : (x == ("__debug__" : Str)) = false := by decide) : PE Y (.Name x pos) (tE ρ ρ (vR (.ty n))) := d_as (d_ty hm hv hg hn hd) fun _ _ h => h
theorem ref_uniq {A : Addr} : ∀ u, RelV (.ref A) u → u = Value.ref A := fun u h => h
theorem ty_uniq {n : String} : ∀ u, RelV (.ty n) u → u = Value.type n := fun u h => h
/-- list(x) of a tuple, shared -/
theorem d_listOf {Y : Cx} {ds : List PyData} {r : Rp} (zl : Y.mg "list" = none) (ha : PE Y e (tE ρ ρ1 r)) (hr : r = dat Y.K (.list ds) ∨ r = dat Y.K (.tuple ds)) (hg : Gl Y "list" := by rfl) (he : starEach [e] Y.env = (false, eval e Y.env) :: starEach [] Y.env := by rfl) : PE Y (.Call (.Name "list" p) [e] [] pos) (tE ρ ρ1 (dat Y.K (.list ds))) :=
  d_share (n_callTy call_list_of (cldN_list hr) hg zl boot_tlist (a_cons ha a_nil he) (by decide) (by decide) he) sh_lst
end
end Fc
/-! FcXd: _law_raised(lambda: ..). -/
namespace Fc
open PySem PySem.W PySem.Spec PySem.Calls PyProof.Rows L2 LamX
/-- what is told of the classes that _law_raised asks about -/
structure TxtR (K : PySem.W.Frag) (mg : Str → Option Value) (T : Txt K mg) (TX : TxtX K mg T) where
  I : TxtI K T.C_Conflict
  ex : PySem.W.exmOne K (.ref T.C_Conflict) (.ref TX.CF) = some true
  kV : PySem.W.kitOne K (.ref T.C_Conflict) (.type "ValueError") = some true
  A1 : Addr
  A2 : Addr
  A3 : Addr
  A4 : Addr
  A5 : Addr
  g1 : mg "Unsatisfiable" = some (.ref A1)
  g2 : mg "ParseError" = some (.ref A2)
  g3 : mg "UnmetClause" = some (.ref A3)
  g4 : mg "InvalidOperation" = some (.ref A4)
  g5 : mg "LineError" = some (.ref A5)
  k1 : PySem.W.kitOne K (.ref T.C_Conflict) (.ref A1) = some false
  k2 : PySem.W.kitOne K (.ref T.C_Conflict) (.ref A2) = some false
  k3 : PySem.W.kitOne K (.ref T.C_Conflict) (.ref A3) = some false
  k4 : PySem.W.kitOne K (.ref T.C_Conflict) (.ref A4) = some false
  k5 : PySem.W.kitOne K (.ref T.C_Conflict) (.ref A5) = some false
theorem _root_.L2.Takes.len {X : Cx} {W : WX} (t : Takes X W) : Takes X (fun cls d σ H => σ.length = X.N.length → W cls d σ H) := fun u s' ⟨a, B, sI, pins, σ, H, cls, d, e, I, nb, up, sky, na, os, ag, w⟩ =>
  t u s' ⟨a, B, sI, pins, σ, H, cls, d, e, I, nb, up, sky, na, os, ag, w I.len⟩
/-- what _law_raised answers -/
def resD : Option (List Lt) → PyData
  | none => .none
  | some ch => .tuple [.str "conflict", .list (ch.map litD)]
abbrev NR : List Str := ["_law_work", "e", "_law_kinds", "_law_at"]
theorem kit_self {K : PySem.W.Frag} {C : Addr} : PySem.W.kitOne K (.ref C) (.ref C) = some true := by unfold PySem.W.kitOne; rw [if_pos (beq_self_eq_true _)]
section
variable {X : Cx} {P c : Addr} {params : Arguments} {body : Expr} {scope : Scope} {p lpos pos : Pos} {k : Nat} {ρ : Rho} {rv : Rp}
abbrev cxR (X : Cx) (g : Addr) (cdg : Value) (s : Shared) (H : Hp) : Cx := (cxOf CX0 X.prog X.w X.K X.mg X.base NR "_law_raised" (defScope s_law_raised) g cdg X.A X.stack s H E0).nox
abbrev suiteR : List Stmt := match defBody s_law_raised with
    | .Try _ [.ExceptHandler _ _ b _] _ _ _ :: _ => b
    | _ => []
/-- the suite, Conflict being caught -/
theorem raised_suite (T : Txt X.K X.mg) (TX : TxtX X.K X.mg T) (TR : TxtR X.K X.mg T TX) {g : Addr} {cdg : Value} {s : Shared} {H : Hp} {a dd : Addr} {ch : List Lt} {oe : Obj} {pn : List (Addr × Obj)} (hz : Zc (.ref T.C_Conflict) (some dd) oe) (hf : ∃ vs, oe.data = .fields vs) (zl : X.mg "list" = none) (zv : X.mg "ValueError" = none) :
    PSs ((cxR X g cdg s H).suite a ((a, oe) :: pn)) suiteR (tS [.no, .per (excR X.K a dd ch), .no, .no] (.rt (dat X.K (resD (some ch))) [.no, .per (excR X.K a dd ch), .per (dat X.K (.list ([true, false, false, false, false, false].map .bool))), .per (dat X.K (.int 0))])) := by
  have nd := sc_law_raised.nd
  refine b_cons (X := (cxR X g cdg s H).suite a ((a, oe) :: pn)) (s_set 2 (d_lst (ds := [true, false, false].map .bool) (a_cons (d_isX TR.I hz hf T.z_isinstance ref_uniq kit_self (d_var 1) (d_glV T.gC_Conflict)) (a_cons (d_isX TR.I hz hf T.z_isinstance ref_uniq TR.k1 (d_var 1) (d_glV TR.g1)) (a_cons (d_isX TR.I hz hf T.z_isinstance ref_uniq TR.k2 (d_var 1) (d_glV TR.g2)) a_nil))))) ?_
  refine b_cons (X := (cxR X g cdg s H).suite a ((a, oe) :: pn)) (s_set 2 (d_bin op_catQ (opd_cat' (ds := [true, false, false].map .bool) (es := [false, false, false].map .bool) (by decide)) (d_var 2) (d_lst (ds := [false, false, false].map .bool) (a_cons (d_isX TR.I hz hf T.z_isinstance ref_uniq TR.k3 (d_var 1) (d_glV TR.g3)) (a_cons (d_isX TR.I hz hf T.z_isinstance ref_uniq TR.k4 (d_var 1) (d_glV TR.g4)) (a_cons (d_isX TR.I hz hf T.z_isinstance ref_uniq TR.k5 (d_var 1) (d_glV TR.g5)) a_nil)))))) ?_
  refine b_no (X := (cxR X g cdg s H).suite a ((a, oe) :: pn)) (t_w (w_or (k := false) (k' := false) (t_cmp op_ne (opd_neI (i := 1) (j := 1) rfl) (d_countB (bs := [true, false, false, false, false, false]) (b := true) (d_var 2) d_bl rfl) d_int) (fun _ => w_one (t_not (k := true) (t_val (d_isX TR.I hz hf T.z_isinstance ty_uniq TR.kV (d_var 1) (d_tyV zv (by rfl))))) (.inr rfl)))) ?_
  refine b_cons (X := (cxR X g cdg s H).suite a ((a, oe) :: pn)) (s_set 3 (d_indexB (bs := [true, false, false, false, false, false]) (b := true) (j := 0) rfl (fun m c hm _ => absurd hm (Nat.not_lt_zero m)) (d_var 2) d_bl)) ?_
  refine b_ifr (X := (cxR X g cdg s H).suite a ((a, oe) :: pn)) (k := true) (t_cmp op_eq (opd_eqI (i := 0) (j := 0) rfl) (d_var 3) d_int) (fun _ => b_ret (s_ret (d_tup (ds := [.str "conflict", .list (ch.map litD)]) (a_cons d_str (a_cons (d_listOf zl (d_excCh TR.I hz hf (d_var 1)) (.inr rfl)) a_nil))))) (fun h => nomatch h)
/-- the shared fields -/
def xdR (K : PySem.W.Frag) (ch : List Lt) : Rp := ⟨fun v B => ∃ dd, v = .ref dd ∧ ∃ u, B dd = some (.xd [(("chain" : Str), u)]) ∧ (dat K (.tuple (ch.map litD))).p u B, fun s ⟨dd, e, u, h1, h2⟩ => ⟨dd, e, u, s _ _ h1, Rp.mono _ s h2⟩⟩
theorem sh_xd {K : PySem.W.Frag} {ch : List Lt} : Shares (xdO K ch) (xdR K ch) := fun dd B H nB ⟨u, h1, h2⟩ => ⟨_, h1, dd, rfl, u, upd_same, Rp.mono _ (same_new nB) h2⟩
/-- what the suite asks -/
def tsR (K : PySem.W.Frag) (C : Addr) (ch : List Lt) : Addr → Value → Option Addr → TS := fun a cls d D σ H => cls = .ref C ∧ ∃ dd, d = some dd ∧ tS [.no, .per (excR K a dd ch), .no, .no] (.rt (dat K (resD (some ch))) [.no, .per (excR K a dd ch), .per (dat K (.list ([true, false, false, false, false, false].map .bool))), .per (dat K (.int 0))]) D σ H
/-- what the lambda's body does -/
def tbR (K : PySem.W.Frag) (C : Addr) (o : Option (List Lt)) (rv : Rp) (ρ : Rho) (E : XK) : TE := match o with
  | none => tE ρ ρ rv
  | some ch => tXE K C ch ρ ρ E
/-- what the exception wish is -/
def EchR (K : PySem.W.Frag) (C : Addr) (F B : Hp) (σ : L2.St) (ρ : Rho) : Option (List Lt) → XK
  | none => fun _ _ _ => False
  | some ch => fun cls d H' => ∃ B', Same B B' ∧ Evn F B' H' σ ρ ∧ cls = .ref C ∧ ∃ dd, d = some dd ∧ Fresh F B' H' σ ρ dd (xdO K ch)
theorem pe_raised (T : Txt X.K X.mg) (TX : TxtX X.K X.mg T) (TR : TxtR X.K X.mg T TX) (o : Option (List Lt)) (TB : TabB X.base X.mg c P) (hc : X.env.code = .ref c) (L : LamS X.env.scope scope) (hr : Room (k + 2) X.A)
    (hbody : ∀ (A : Around) (outer : List Env) (s : Shared) (H : Hp) (E : XK) (f c' : Addr), Room k (A.deeper (lamEnv X scope s.heap.objs.size f c')) → PE (lamCx X A outer s H E scope f c') body (tbR X.K T.C_Conflict o rv ρ E))
    (hbind : ∀ (q : Str) (cl : List (Str × Addr)) (pm cv ctv : Value), bindArgs (PySem.W.kla_fn "<lambda>" q params body scope cl pm cv ctv) ⟨[], []⟩ = pure [] := by intros; rfl)
    (hdef : defaultsOf params X.env = ([], []) := by rfl) (hg : Gl X "_law_raised" := by rfl) :
    PE X (.Call (.Name "_law_raised" p) [.Lambda params body scope lpos] [] pos) (tET P ρ ρ (dat X.K (resD o))) := by
  obtain ⟨oc, od, kV, doc, pm, an, cdv, ct, osl, hfd, lk, hcd⟩ := T.law_raised.F.ex
  rw [hfd] at lk
  refine ⟨fun pins s σ H Q I ⟨F, B, hFP, ev, q⟩ => ?_⟩
  refine wpAny_Call_Name_kw (ld_glob I hg T.law_raised.g ?_ (by decide))
  refine PySem.W.callWith_K (h₀ := X.base) I.ok.mod.kin T.law_raised.F.kp ?_ (by rfl) (by rfl)
  show wpAny _ _ (spliced ((false, eval (.Lambda params body scope lpos) X.env) :: backTo pos (starEach [] X.env))) _ _ s
  have hP1 : H P = some (.tbl #[]) := ev.sp.frm _ _ hFP
  refine Calls.spliced_cons (lam_make0 I TB hc hP1 hdef (L.has I.ok) fun f c' pm' ctv ps s' I1 nc nf nfr nfc hf hcd' => ?_)
  have e1 := ev.tab (ps := ps) (q := X.env.qual ++ "<lambda>") hFP nc
  have hfn : tabH H P c' ps (X.env.qual ++ "<lambda>") f = none := by
    unfold tabH
    rw [upd_ne nfc, upd_ne (fun z => by rw [z, hP1] at nf; cases nf)]
    exact nf
  refine Calls.spliced_nil ⟨I1.kIn, ?_⟩
  have rc : codeAny (model X.prog X.w) X.A (.call (.ref T.law_raised.a) ⟨[.ref f], []⟩) (CR CX0 X.stack X.prog X.w (tabH H P c' ps (X.env.qual ++ "<lambda>")) s' Q E0) s' := by
    refine run_ofS (N := NR) (ps := ["_law_work"]) (us := [.ref f]) (vs := [.ref f]) lk hcd sc_law_raised hr I1.env0 ?_ (.cons rfl .nil) rfl fun hr' => ?_
    · have := T.law_raised.b s' [.ref f] I1.kIn rfl
      rw [hfd] at this
      exact this
    have act : ∀ (W : WX) (pn : List (Addr × Obj)) (xe : Value → Shared → Prop) (E : XK) (p1 p2 : Pos), Takes ((cxR X T.law_raised.a cdv s' (tabH H P c' ps (X.env.qual ++ "<lambda>"))).tr pn xe) W → (∀ cls d σ' H', E cls d H' → W cls d σ' H') →
        PE ((cxR X T.law_raised.a cdv s' (tabH H P c' ps (X.env.qual ++ "<lambda>"))).tr pn xe) (.Call (.Name "_law_work" p1) [] [] p2) (fun σZ HZ Q => σZ[0]? = some (some (.ref f)) ∧ HZ c' = some (CodeO c' (X.env.qual ++ "<lambda>")) ∧ tbR X.K T.C_Conflict o rv ρ E σ HZ Q) :=
      fun W pn xe E p1 p2 tk hW => pe_act (CXg := CX0) (Eg := E0) (i := 0) I1 L hf hfn nfr (hbind _ _ _ _ _) tk hW hr' (fun A outer s H hr2 => hbody A outer s H E f c' hr2) rfl (.inl rfl) (by decide) (by decide)
    refine ⟨_, (pss_cons (ps_try_as (X := cxR X T.law_raised.a cdv s' (tabH H P c' ps (X.env.qual ++ "<lambda>"))) (c := .ref TX.CF) (i := 1) (n := "e") (Wout := fun _ _ _ _ => False)
      (tb := fun W D σZ HZ => ∃ Ech : XK, (∀ cls d σ' H', Ech cls d H' → σ'.length = 4 → W cls d σ' H') ∧ σZ[0]? = some (some (.ref f)) ∧ HZ c' = some (CodeO c' (X.env.qual ++ "<lambda>")) ∧ tbR X.K T.C_Conflict o rv ρ Ech σ HZ (fun _ H1 => D.nx σZ H1))
      (ts := tsR X.K T.C_Conflict (o.getD [])) rfl rfl sc_law_raised.nd rfl rfl ⟨by rfl, by decide, .inl TX.gF⟩ L2.takes0 (fun W pn xe tk _ => ?tb) (fun a oe cls d pn hz hf => ?ts)) (pss_one (ps_ret pe_non))).nox, ?fin⟩
    case tb =>
      refine ⟨fun pins s' σ H' D I h' => ?_⟩
      obtain ⟨Ech, hW, h1, h2, h3⟩ := h'
      exact (pss_one (ps_expr (act _ pn xe Ech _ _ tk.len fun cls d σ' H' h hl => hW cls d σ' H' h hl))).run pins s' σ H' D I ⟨h1, h2, h3⟩
    case ts =>
      refine ⟨fun pins s2 σ2 H2 D I2 ⟨hcl, dd, hd, ht⟩ => ?_⟩
      subst hcl hd
      exact (raised_suite T TX TR hz hf T.z_list T.z_ValueError).run pins s2 σ2 H2 D I2 ht
    case fin =>
      refine ⟨EchR X.K T.C_Conflict (dropA F P) B σ ρ o, fun cls d σ' H' h hl => ?_, rfl, upd_same, ?_⟩
      · cases o with
        | none => exact h.elim
        | some ch =>
          obtain ⟨B', sB, e2, hcl, dd, hd, fr⟩ := h
          subst hcl hd
          refine ⟨true, TR.ex, fun _ a na => ⟨rfl, dd, rfl, ?_⟩, fun z => nomatch z⟩
          obtain ⟨ob, sB2, e3, d2, ed, u, hu, hr⟩ := e2.share fr sh_xd
          cases ed
          refine ⟨Fc.rest (upd B' dd ob) H', upd B' dd ob, ⟨e3.sp.rest, by rw [List.length_set, hl]; rfl, fun i r hi => ?_, fun i c hi => ?_, fun i j c d a hi => ?_⟩, fun v σ2 H2 B2 s3 e4 hv => q v H2 B2 ((sB.trans sB2).trans s3) (e3.back s3 e4.sp) hv⟩
          · rcases i with _ | _ | _ | _ | i
            · cases hi
            · cases hi
              exact ⟨.ref a, List.getElem?_set_self (by omega), rfl, u, hu, hr⟩
            · cases hi
            · cases hi
            · cases hi
          · rcases i with _ | _ | _ | _ | i <;> cases hi
          · rcases i with _ | _ | _ | _ | i <;> cases hi
      · cases o with
        | none => exact ⟨dropA F P, B, e1, fun v H1 B1 s1 e3 _ => q .non H1 B1 s1 e3 Dp.non⟩
        | some ch => exact ⟨dropA F P, B, e1, fun cls d H' B' s2 e3 ⟨hcl, dd, hd, fr⟩ => ⟨B', s2, e3, hcl, dd, hd, fr⟩⟩
  refine wpAny_call (codeAny_mono rc fun r s2 hq => ?_)
  cases r with
  | error e => exact (show False from hq).elim
  | ok fl =>
    cases fl with
    | ret u => exact I1.after hq
    | next => exact False.elim hq
    | brk => exact False.elim hq
    | cont => exact False.elim hq
end
end Fc
/-! FcPc: what is reached, and the ends of the least chains: the same. -/
namespace Fc
open PySem PySem.W PySem.Spec PyProof.Rows L2
theorem insR_one {s : RSt} {k : Lt} : (∀ x, x ∈ (insR s k).1 ↔ x ∈ s.1 ∨ x = k) ∧ ∀ x, x ∈ (insR s k).1 → x ∉ (insR s k).2 → x ∈ s.1 ∧ x ∉ s.2 := by
  unfold insR
  split
  · rename_i h
    exact ⟨fun x => ⟨.inl, fun z => z.elim id fun e => e ▸ h⟩, fun x h1 h2 => ⟨h1, h2⟩⟩
  · rename_i h
    refine ⟨fun x => by show x ∈ s.1 ++ [k] ↔ _; simp, fun x h1 h2 => ?_⟩
    have h1 : x ∈ s.1 ++ [k] := h1
    have h2 : x ∉ s.2 ++ [k] := h2
    simp only [List.mem_append, List.mem_singleton, not_or] at h1 h2
    exact ⟨h1.resolve_right h2.2, h2.1⟩
theorem foldR_mem : ∀ (xs : List Lt) (s : RSt), (∀ x, x ∈ (xs.foldl insR s).1 ↔ x ∈ s.1 ∨ x ∈ xs) ∧ ∀ x, x ∈ (xs.foldl insR s).1 → x ∉ (xs.foldl insR s).2 → x ∈ s.1 ∧ x ∉ s.2
  | [], s => ⟨fun x => by simp, fun x h1 h2 => ⟨h1, h2⟩⟩
  | k :: xs, s => by
    obtain ⟨h1, h2⟩ := foldR_mem xs (insR s k)
    obtain ⟨h3, h4⟩ := insR_one (s := s) (k := k)
    rw [List.foldl_cons]
    refine ⟨fun x => by rw [h1, h3, List.mem_cons, or_assoc], fun x a b => ?_⟩
    obtain ⟨c, d⟩ := h2 x a b
    exact h4 x c d
/-- all that is reached so far -/
structure RGood (g : Gm) (a : Lt) (s : RSt) : Prop where
  inv : RInv g s
  st : a ∈ s.1
  snd : ∀ k ∈ s.1, ∃ n, Pn g n a k
  clo : ∀ k ∈ s.1, k ∉ s.2 → ∀ y ∈ succ g k, y ∈ s.1
theorem RGood.step {g : Gm} (hg : GmOk g) {a : Lt} {s : RSt} (h : RGood g a s) (hn : ¬ s.2 = []) : RGood g a (stepR g s) := by
  refine ⟨(stepR_inv hg h.inv hn).1, ?_, ?_, ?_⟩ <;>
  · obtain ⟨l, hl⟩ : ∃ l, s.2.getLast? = some l := by
      cases e : s.2.getLast? with
      | none => exact absurd (List.getLast?_eq_none_iff.mp e) hn
      | some l => exact ⟨l, rfl⟩
    obtain ⟨h1, h2⟩ := foldR_mem (succ g l) (s.1, s.2.dropLast)
    have es : stepR g s = (succ g l).foldl insR (s.1, s.2.dropLast) := by unfold stepR; rw [hl]
    rw [es]
    have hls := h.inv.sub l (List.mem_of_getLast? hl)
    first
    | exact (h1 a).mpr (.inl h.st)
    | exact fun k hk hk2 y hy => by
        obtain ⟨c, d⟩ := h2 k hk hk2
        by_cases e : k = l
        · subst e
          exact (h1 y).mpr (.inr hy)
        · refine (h1 y).mpr (.inl (h.clo k c (fun z => ?_) y hy))
          have e2 : s.2 = s.2.dropLast ++ [l] := by
            obtain ⟨hne, e3⟩ := List.getLast?_eq_some_iff.mp hl
            rw [e3, List.dropLast_concat]
          rw [e2] at z
          rcases List.mem_append.mp z with z | z
          · exact d z
          · exact e (List.mem_singleton.mp z)
    | exact fun k hk => by
        rcases (h1 k).mp hk with z | z
        · exact h.snd k z
        · obtain ⟨n, hp⟩ := h.snd l hls
          exact ⟨n + 1, hp.snoc z⟩
theorem reach_spec {g : Gm} (hg : GmOk g) {a : Lt} (ha : a.1 ∈ g.names) : (reachF g a).Nodup ∧ ∀ k, k ∈ reachF g a ↔ ∃ n, Pn g n a k := by
  obtain ⟨m, m0, m1, m2, m3⟩ := itr_stop (stepR g) (fun s => s.2 = []) (RGood g a) (fun s => 2 * (2 * g.ops.length - s.1.length) + s.2.length) (fun s h hs => ⟨h.step hg hs, (stepR_inv hg h.inv hs).2⟩) _ ([a], [a]) (Nat.le_refl _)
    ⟨⟨by simp, by simpa using ha, by simp, Nat.le_refl _⟩, by simp, fun k hk => ⟨0, (List.mem_singleton.mp hk).symm⟩, fun k h1 h2 => absurd h1 h2⟩
  rw [reachF, firstM_eq m1 m2]
  have G := m3 m (Nat.le_refl _)
  refine ⟨G.inv.nd, fun k => ⟨G.snd k, fun ⟨n, hp⟩ => ?_⟩⟩
  have key : ∀ n k, Pn g n a k → k ∈ (itr (stepR g) m ([a], [a])).1 := by
    intro n
    induction n with
    | zero => intro k hp; exact (show a = k from hp) ▸ G.st
    | succ n ih =>
      intro k hp
      obtain ⟨c, h1, h2⟩ := Pn.last hp
      refine G.clo c (ih c h1) (fun z => ?_) k h2
      have m1 : (itr (stepR g) m ([a], [a])).2 = [] := m1
      rw [m1] at z
      cases z
  exact key n k hp
/-- the answer of consequences is the ends that the law finds -/
theorem reach_sort {g : Gm} (hg : GmOk g) {a : Lt} (ha : a.1 ∈ g.names) : sortT (reachF g a) = sortT ((chainsF g a).map (·.1)) := by
  obtain ⟨h1, h2⟩ := reach_spec hg ha
  exact sortT_congr ((List.perm_ext_iff_of_nodup h1 (chainsF_nd g a)).mpr fun k => by rw [h2, chainsF_keys hg ha])
end Fc
/-! FcLw: the law's own frame: readings and rules with the tables of code objects; its row, its draws. -/
namespace Fc
open PySem PySem.W PySem.Spec PySem.Calls PyProof.Rows L2 LamX
/-- statements that end the law with True -/
def tL (Ps : List Addr) (ρ : Rho) : TS := fun D σ H => ∃ F B, (∀ P ∈ Ps, F P = some (.tbl #[])) ∧ Evn F B H σ ρ ∧ ∀ H', D.rt (.bl true) H'
/-- a statement that uses up a table -/
def tSN (P : Addr) (ρ ρ1 : Rho) : TS := fun D σ H => ∃ F B, F P = some (.tbl #[]) ∧ Evn F B H σ ρ ∧ ∀ σ' H' B', Same B B' → Evn (dropA F P) B' H' σ' ρ1 → D.nx σ' H'
section
variable {X : Cx} {st : Stmt} {rest' bd : List Stmt} {ρ ρ1 ρ2 : Rho} {r ra rb : Rp} {P : Addr} {Ps Ps' : List Addr} {a b c e : Expr} {pos pos' px py pt pt2 : Pos} {x y : Str} {K : PySem.W.Frag}
theorem bL_cons (h1 : PS X st (tS ρ (.nx ρ1))) (h2 : PSs X rest' (tL Ps ρ1)) : PSs X (st :: rest') (tL Ps ρ) :=
  PSs.weak (pss_cons h1 h2) fun D σ H ⟨F, B, hP, e, q⟩ => ⟨F, B, e, fun σ' H' B' s e' => ⟨F, B', hP, e', q⟩⟩
theorem bL_pre (h : PSs X rest' (tL Ps ρ1)) (s : Sub ρ ρ1) : PSs X rest' (tL Ps ρ) := PSs.weak h fun D σ H ⟨F, B, hP, e, q⟩ => ⟨F, B, hP, e.less s, q⟩
theorem bL_end (h : PSs X rest' (tS ρ (.rt (dat K (.bool true)) ρ1))) : PSs X rest' (tL Ps ρ) := PSs.weak h fun D σ H ⟨F, B, hP, e, q⟩ => ⟨F, B, e, fun v σ' H' B' s e' hv => by
  obtain rfl := dp_bl hv
  exact q H'⟩
theorem bL_tab (h1 : PS X st (tSN P ρ ρ1)) (h2 : PSs X rest' (tL Ps' ρ1)) (hP : P ∈ Ps) (hs : ∀ p ∈ Ps', p ∈ Ps ∧ p ≠ P) : PSs X (st :: rest') (tL Ps ρ) :=
  PSs.weak (pss_cons h1 h2) fun D σ H ⟨F, B, hF, e, q⟩ => ⟨F, B, hF _ hP, e, fun σ' H' B' s e' => ⟨dropA F P, B', fun p hp => by rw [dropA_ne (hs p hp).2]; exact hF p (hs p hp).1, e', q⟩⟩
theorem bL_no (hc : PT X c (tT ρ ρ1 false)) (hb : PSs X rest' (tL Ps ρ1)) : PSs X (.If c bd [] pos :: rest') (tL Ps ρ) := bL_cons (s_if (k := false) (o := .nx ρ1) hc (fun h => nomatch h) (fun _ => b_nil)) hb
theorem s_setTab (i : Nat) (he : PE X e (tET P ρ ρ1 r)) (hN : X.N.Nodup := by assumption) (hi : X.N[i]? = some x := by rfl) (hx : Loc X.env.scope x := by first | exact Or.inl rfl | exact Or.inr rfl) (hs : swapsWith e (some (.Name x pos')) pos.line X.env = pure false := by rfl)
    (hf : X.fn x = true ∨ X.env.scope.names.lookup x = some .local := by first | exact .inl rfl | exact .inr rfl) : PS X (.Assign [.Name x pos'] e pos) (tSN P ρ (ρ1.set i (.per r))) :=
  PS.weak (ps_set hN hi hx he hs hf) fun D σ H ⟨F, B, hP, e, q⟩ => ⟨F, B, hP, e, fun v H1 B1 s1 e1 hv => q _ H1 B1 s1 (e1.set hv)⟩
theorem s_parTab (i j : Nat) (ha : PE X a (tE ρ ρ1 ra)) (hb : PE X b (tET P ρ1 ρ2 rb)) {kt k2 pt2} (hN : X.N.Nodup := by assumption) (hc : X.calm = true := by rfl) (hi : X.N[i]? = some x := by rfl) (hj : X.N[j]? = some y := by rfl) (hij : i ≠ j := by decide) (hx : X.env.scope.names.lookup x = some .local := by rfl) (hy : X.env.scope.names.lookup y = some .local := by rfl)
    (hw : swappedStores [.Tuple [.Name x px, .Name y py] kt pt] (.Tuple [a, b] k2 pt2) X.env = pure (some [x, y]) := by rfl) (hs : swapsWithSole [.Tuple [.Name x px, .Name y py] kt pt] (.Tuple [a, b] k2 pt2) pos.line X.env = pure false := by rfl)
    (hs1 : starEach [a, b] X.env = (false, eval a X.env) :: starEach [b] X.env := by rfl) (hs2 : starEach [b] X.env = (false, eval b X.env) :: starEach [] X.env := by rfl) :
    PS X (.Assign [.Tuple [.Name x px, .Name y py] kt pt] (.Tuple [a, b] k2 pt2) pos) (tSN P ρ ((ρ2.set i (.per ra)).set j (.per rb))) :=
  PS.weak (ps_par hc hN hi hj hij hx hy (pa_cons ha (pa_cons hb pa_nil hs2) hs1) hw hs) fun D σ H ⟨F, B, hP, e0, q⟩ => ⟨F, B, e0, fun v H1 B1 s1 e1 hv => ⟨F, B1, hP, e1, fun w H2 B2 s2 e2 hw => ⟨_, _, rfl, q _ H2 B2 (s1.trans s2) ((e2.set (ra.mono s2 hv)).set hw)⟩⟩⟩
theorem n_as {c c' : Ow} (h : PE X e (tN ρ ρ1 c)) (k : ∀ a B H, c.p a B H → c'.p a B H) : PE X e (tN ρ ρ1 c') := PE.weak h fun σ H Q ⟨F, B, e, q⟩ => ⟨F, B, e, fun a H' B' s e' f => q a H' B' s e' ⟨f.nb, f.nf, f.no, k _ _ _ f.at_⟩⟩
end
/-! ### the start -/
theorem dps_ints {K : PySem.W.Frag} {B : Hp} : ∀ ns : List Int, DpAll K B (ns.map V.int) (ns.map PyData.int)
  | [] => .nil
  | n :: ns => .cons (Dp.int n) (dps_ints ns)
/-- what the law promises -/
def spLawT (K : PySem.W.Frag) (PS PL : Addr) : Sp := fun vs H Q _ => ∃ (a : Addr) (ns : List Int), vs = [V.ref a] ∧ ns.length ≤ 63 ∧ H PS = some (.tbl #[]) ∧ H PL = some (.tbl #[]) ∧ SqL K H a (ns.map V.int) ∧ ∀ H', Q (.bl true) H'
/-- what is shared at the start: the script -/
theorem law_start {K : PySem.W.Frag} {H : Hp} {PS PL a : Addr} {ns : List Int} (h1 : H PS = some (.tbl #[])) (h2 : H PL = some (.tbl #[])) (hs : SqL K H a (ns.map V.int)) :
    ∃ F B, (∀ P ∈ [PS, PL], F P = some (.tbl #[])) ∧ Split F B H ∧ (dat K (.list (ns.map .int))).p (.ref a) B := by
  let F : Hp := fun b => if b ∈ [PS, PL] then some (.tbl #[]) else none
  have hF : ∀ b o, F b = some o → b ∈ [PS, PL] ∧ o = .tbl #[] ∧ H b = some (.tbl #[]) := fun b o h => by
    by_cases hb : b ∈ [PS, PL]
    · have e : F b = some (.tbl #[]) := if_pos hb
      rw [e] at h
      cases h
      refine ⟨hb, rfl, ?_⟩
      simp only [List.mem_cons, List.not_mem_nil, or_false] at hb
      rcases hb with rfl | rfl
      · exact h1
      · exact h2
    · have e : F b = none := if_neg hb
      rw [e] at h
      cases h
  rcases hs with hr | hk
  · refine ⟨F, fun b => if b = a then H b else none, fun P hP => if_pos hP, ⟨fun b o h => ?_, fun b o h => ?_, fun b o h => ?_⟩, Dp.lst (.inl ?_) (dps_ints ns)⟩
    · by_cases hb : b = a
      · rwa [if_pos hb] at h
      · rw [if_neg hb] at h; cases h
    · obtain ⟨_, rfl, e⟩ := hF b o h
      exact e
    · obtain ⟨_, rfl, e⟩ := hF b o h
      by_cases hb : b = a
      · subst hb
        rcases hr with z | ⟨ob, z⟩ <;> rw [e] at z <;> cases z
      · exact if_neg hb
    · rcases hr with z | ⟨ob, z⟩
      · exact .inl ((if_pos rfl).trans z)
      · exact .inr ⟨ob, (if_pos rfl).trans z⟩
  · exact ⟨F, fun _ => none, fun P hP => if_pos hP, ⟨fun b o h => (nomatch h), fun b o h => by obtain ⟨_, rfl, e⟩ := hF b o h; exact e, fun b o h => rfl⟩, Dp.lst (.inr hk) (dps_ints ns)⟩
/-! ### draws -/
def litR (ls : List Lt) (r : Rw) : Lt × Rw := (ls.getD (takeR ls.length r).1.toNat ("", false), (takeR ls.length r).2)
theorem litR_ok {ls : List Lt} (h : 1 ≤ ls.length) {r : Rw} (hr : RwOk r) : RwOk (litR ls r).2 ∧ (litR ls r).1 ∈ ls ∧ pickR (ls.map litD) r = (litD (litR ls r).1, (litR ls r).2) := by
  obtain ⟨a1, a2, a3, a4⟩ := takeR_ok (m := (ls.length : Int)) (by omega) hr
  refine ⟨a3, getD_mem (by omega), ?_⟩
  unfold pickR litR
  rw [List.length_map, getD_map litD (xs := ls) (by omega) ("", false) .none]
def lits2 (g : Gm) : List Lt := sortT (g.names.map (fun n => (n, true)) ++ g.names.map fun n => (n, false))
theorem lits2_len (g : Gm) : (lits2 g).length = 2 * g.ops.length := by
  have hn : g.names.length = g.ops.length := List.length_map _
  unfold lits2
  rw [(sortT_perm _).length_eq, List.length_append, List.length_map, List.length_map, hn]
  omega
theorem lits2_nm {g : Gm} {l : Lt} (h : l ∈ lits2 g) : l.1 ∈ g.names := by
  rcases List.mem_append.mp (sortT_mem.mp h) with h | h <;>
  · obtain ⟨n, hn, rfl⟩ := List.mem_map.mp h
    exact hn
/-- the row before turn i -/
def turnR (ls : List Lt) (r : Rw) : Nat → Rw
  | 0 => r
  | i + 1 => (litR ls (litR ls (turnR ls r i)).2).2
theorem turnR_ok {ls : List Lt} (h : 1 ≤ ls.length) {r : Rw} (hr : RwOk r) : ∀ i, RwOk (turnR ls r i)
  | 0 => hr
  | i + 1 => (litR_ok h (litR_ok h (turnR_ok h hr i)).1).1
theorem eqv_oD (o : Option (List Lt)) : PyData.eqv (oD o) (oD o) = true := by
  cases o with
  | none => rfl
  | some c => exact (Datum.eqv (α := List Lt) c c).trans (decide_eq_true rfl)
end Fc
/-! FcLx: law: its three turns. -/
namespace Fc
open PySem PySem.W PySem.Spec PySem.Calls PyProof.Rows L2 LamX
abbrev NLw : List Str := ["_law_script", "_law_row", "_law_grammar_here", "_law_names_here", "_law_sets_here", "_law_literals_here", "_law_name", "_law_turn", "_law_start", "_law_goal", "_law_chains_here", "_law_steps", "_law_given_here", "_law_starts", "_law_ways", "_law_word", "_law_chain", "_law_found", "_law_told"]
section
variable {P : Program} {w : World} {K : PySem.W.Frag} {mg : Str → Option Value} {base : Heap}
theorem fn_law {f : Addr} {fd : FuncData} {c PS PL : Addr} {k : Nat} (F : FunC K "law" "law" s_law f fd c)
    (body : ∀ (A : Around) (outer : List PySem.Env) (s : Shared) (H : Hp) (E : XK) (ns : List Int), Room k (A.deeper (envOfC "law" (defScope s_law) s.heap.objs.size f (.ref c))) → ns.length ≤ 63 →
      PSs (cxD P w K mg base NLw "law" s_law f (.ref c) A outer s H E) (defBody s_law) (tL [PS, PL] (.per (dat K (.list (ns.map .int))) :: List.replicate 18 .no))) :
    FnOk P w K mg base CX0 (k + 1) f fd ["_law_script"] (spLawT K PS PL) := by
  obtain ⟨oc, od, kV, doc, pm, an, ct, osl, rfl, lk, hcd⟩ := F.ex
  refine fn_of lk hcd sc_law (fun vs H Q E ⟨a, ns, e, _⟩ => by rw [e]; rfl) fun A outer s H vs Q E hr ⟨a, ns, ev, hn, h1, h2, hs, q⟩ => ?_
  subst ev
  refine ⟨_, (body A outer s H E ns hr hn).nox, ?_⟩
  obtain ⟨F0, B, hF, sp, hd⟩ := law_start h1 h2 hs
  exact ⟨F0, B, hF, spl_start (rs := [dat K (.list (ns.map .int))]) sp (.cons hd .nil) 18, q⟩
/-- the law's slots in its turns -/
abbrev stL (K : PySem.W.Frag) (g : Gm) (ns : List Int) (r : Rw) : Rho := [.per (dat K (.list (ns.map .int))), .own (rowO K none r), .per (dat K (gmD g)), .per (dat K (.list (g.names.map .str))), .per (dat K (.list ((setsK g).map sD))), .per (dat K (.list ((lits2 g).map litD))), .no, .no, .no, .no, .no, .no, .no, .no, .no, .no, .no, .no, .no]
abbrev cxL (P : Program) (w : World) (K : PySem.W.Frag) (mg : Str → Option Value) (base : Heap) (f c : Addr) (A : Around) (outer : List PySem.Env) (s : Shared) (H : Hp) (E : XK) : Cx := cxD P w K mg base NLw "law" s_law f (.ref c) A outer s H E
abbrev loopB : List Stmt := match defBody s_law with
  | _ :: _ :: _ :: _ :: .For _ _ b _ _ :: _ => b
  | _ => []
/-- one turn -/
theorem law_turn (T : Txt K mg) {f c : Addr} {A : Around} {outer : List PySem.Env} {s : Shared} {H : Hp} {E : XK} (hr : Room 11 (A.deeper (envOfC "law" (defScope s_law) s.heap.objs.size f (.ref c)))) {g : Gm} (hg : GmOk g) {ns : List Int} {r : Rw} (hr0 : RwOk r) (i : Nat) :
    ∃ ρ', PSs (cxL P w K mg base f c A outer s H E) loopB (tS ((stL K g ns r).set 7 (.per (dat K (.int (i : Int))))) (.nx ρ')) ∧ Sub ρ' (stL K g ns (litR (lits2 g) (litR (lits2 g) r).2).2) := by
  have nd := sc_law.nd
  have hu := hu_of hr
  have hu64 := hr.units
  have h128 := hu128 hr
  have hlen : 1 ≤ g.ops.length ∧ g.ops.length ≤ 5 := GmOk.len hg
  have hl : 1 ≤ (lits2 g).length := by rw [lits2_len]; omega
  have hl2 : (lits2 g).length ≤ 10 := by rw [lits2_len]; omega
  obtain ⟨k1, m1, e1⟩ := litR_ok hl hr0
  obtain ⟨k2, m2, e2⟩ := litR_ok hl k1
  obtain ⟨a, r1, ea⟩ : ∃ a r1, litR (lits2 g) r = (a, r1) := ⟨_, _, rfl⟩
  rw [ea] at k1 m1 e1 k2 m2 e2 ⊢
  dsimp only at k1 m1 e1 k2 m2 e2 ⊢
  obtain ⟨b, r2, eb⟩ : ∃ b r2, litR (lits2 g) r1 = (b, r2) := ⟨_, _, rfl⟩
  rw [eb] at k2 m2 e2 ⊢
  dsimp only at k2 m2 e2 ⊢
  have ha := lits2_nm m1
  have hb := lits2_nm m2
  let D := chainsF g a
  have hD : D.length ≤ 2 * g.ops.length := chainsF_len hg ha
  have hget : (valD (cD D) b).getD .none = oD (bestC g a b) := by
    rw [cD_val, chainsF_get hg ha]
    cases bestC g a b <;> rfl
  let st2 : Rho := ((((stL K g ns r2).set 7 (.per (dat K (.int (i : Int))))).set 8 (.per (dat K (litD a)))).set 9 (.per (dat K (litD b)))).set 10 (.per (ldR P w K (cD D)))
  have hz : ((lits2 g).map litD).length ≤ 1000 := by rw [List.length_map]; omega
  have hz1 : 1 ≤ ((lits2 g).map litD).length := by rw [List.length_map]; omega
  refine ⟨st2, b_cons (X := cxL P w K mg base f c A outer s H E) (s_par (ra := dat K (litD a)) (rb := dat K (litD b)) 8 9 (a_cons (d_callW (o := none) (rw1 := r1) (rr := dat K (litD a)) T.law_pick (ok_pick T) (r, (lits2 g).map litD) 1 ⟨hr0, hz1, hz⟩ hr (a_cons (d_var 5) a_nil) rfl rfl ?p1 ?p2) (a_cons (d_callW (o := none) (rw1 := r2) (rr := dat K (litD b)) T.law_pick (ok_pick T) (r1, (lits2 g).map litD) 1 ⟨k1, hz1, hz⟩ hr (a_cons (d_var 5) a_nil) rfl rfl ?p3 ?p4) a_nil)))
    (b_cons (s_set 10 (d_callT T.law_chains (ok_lchains T) (g, a) ⟨hg, ha⟩ hr (a_cons (d_var 2) (a_cons (d_var 8) a_nil))))
    (b_no (t_cmp (op_neP hu64) (opd_neP (pl_oD (bestC g a b)) (pl_oD (bestC g a b)) (by rw [eqv_oD]; rfl)) (d_callT T.find_chain (ok_find_chain T) (g, a, b) ⟨hg, ha, hb⟩ hr (a_cons (d_var 2) (a_cons (d_var 8) (a_cons (d_var 9) a_nil)))) (d_eq (d_ldGet2 hu (d_var 10) (d_var 9) d_non) hget))
    (b_no (t_cmp (op_neP hu64) (opd_neT (α := List Lt) (x := sortT (reachF g a)) (y := sortT (reachF g a)) (by rw [decide_eq_true rfl]; rfl)) (d_callT T.consequences (ok_consequences T) (g, a) ⟨hg, ha⟩ hr (a_cons (d_var 2) (a_cons (d_lst (ds := [litD a]) (a_cons (d_var 8) a_nil)) a_nil))) (d_eq (d_sortedK (kvs := cD D) h128 T.z_sorted (d_var 10) ?few) ?srt))
    (b_one ?last)))), Sub.cons (Sub.cons (Sub.cons (Sub.cons (Sub.cons (Sub.cons (Sub.cons (Sub.drop (Sub.drop (Sub.drop (Sub.drop (Sub.drop (Sub.cons (Sub.cons (Sub.cons (Sub.cons (Sub.cons (Sub.cons (Sub.cons Sub.nil))))))))))))))))))⟩
  case p1 => show (pickR ((lits2 g).map litD) r).2 = r1; rw [e1]
  case p2 => show dat K (pickR ((lits2 g).map litD) r).1 = _; rw [e1]
  case p3 => show (pickR ((lits2 g).map litD) r1).2 = r2; rw [e2]
  case p4 => show dat K (pickR ((lits2 g).map litD) r1).1 = _; rw [e2]
  case few => unfold cD; rw [List.length_map]; omega
  case srt => rw [cD_keys, ← reach_sort hg ha]; rfl
  case last =>
    have hv : valD (cD D) b = (bestC g a b).map chD' := by rw [cD_val, chainsF_get hg ha]
    rcases bestC_cases g a b with ⟨n, hd, e⟩ | ⟨hn, e⟩
    · obtain ⟨cs, hcl, hch⟩ := chain_ok hg hd ha
      have hlc := hch.len
      have hfw := hch.few
      rw [e] at hv
      have og := opd_ldGet (P := P) (w := w) (K := K) (kvs := cD D) (l := b) (d := .list ((chD g b n a).map litD)) hv
      refine s_if (k := true) (t_cmp (op_ldIn hu) (opd_ldIn (neg := false) (by rw [hv]; rfl)) (d_var 9) (d_var 10)) (fun _ => b_less (b_cons (s_set 11 (d_callT T.check_chain (ok_check_chain T) (g, chD g b n a, cs) hch hr (a_cons (d_var 2) (a_cons (d_ix (ix_ld hu) og (d_var 10) (d_var 9)) a_nil))))
        (b_no (t_cmp op_ne (opd_neI (i := (cs.length : Int)) (j := (cs.length : Int)) (by rw [decide_eq_true rfl]; rfl)) (d_eq (d_lenL (ds := cs.map clD) T.z_len (d_var 11)) (by rw [List.length_map])) (d_eq (d_bin op_sub opd_I0 (d_lenL (ds := (chD g b n a).map litD) T.z_len (d_ix (ix_ld hu) og (d_var 10) (d_var 9))) d_int) ?e3)) b_nil)) (Sub.unset rfl)) (fun h => nomatch h)
      case e3 =>
        rw [List.length_map, hlc]
        show PyData.int (((cs.length + 1 : Nat) : Int) - 1) = _
        congr 1
        omega
    · rw [e] at hv
      exact s_if (k := false) (t_cmp (op_ldIn hu) (opd_ldIn (neg := false) (by rw [hv]; rfl)) (d_var 9) (d_var 10)) (fun h => nomatch h) (fun _ => b_nil)
end
end Fc
/-! FcLy: the plain law of the law's end: the chains that it judges are chains. -/
namespace Fc
open PySem PySem.W PySem.Spec PyProof.Rows L2
theorem best_ok {g : Gm} (hg : GmOk g) {s t : Lt} (hs : s.1 ∈ g.names) {ch : List Lt} (h : bestC g s t = some ch) : ∃ cs, ChOk g ch cs ∧ ch[0]? = some s ∧ ch[cs.length]? = some t := by
  rcases bestC_cases g s t with ⟨n, hd, e⟩ | ⟨_, e⟩
  · rw [e] at h
    injection h with h
    subst h
    obtain ⟨cs, hl, hc⟩ := chain_ok hg hd hs
    exact ⟨cs, hc, (chD_wk hd).first, by rw [hl]; exact (chD_wk hd).last⟩
  · rw [e] at h; cases h
theorem con_some {g : Gm} (hg : GmOk g) {pa pb : List Lt} (h : findCon g = some (pa, pb)) : ∃ cs cs2 s, BkOk g pa cs pb cs2 s := by
  obtain ⟨l1, n, l2, e1, e2, e3⟩ := List.findSome?_eq_some_iff.mp h
  have hm : n ∈ g.names := by rw [e1]; simp
  obtain ⟨ea, eb⟩ : bestC g (n, false) (n, true) = some pa ∧ bestC g (n, true) (n, false) = some pb := by
    unfold conOf at e2
    split at e2
    · rename_i qa qb ea eb
      injection e2 with e2
      injection e2 with q1 q2
      subst q1 q2
      exact ⟨ea, eb⟩
    · cases e2
  obtain ⟨cs, k1, k2, k3⟩ := best_ok hg hm ea
  obtain ⟨cs2, j1, j2, j3⟩ := best_ok hg hm eb
  exact ⟨cs, cs2, (n, false), k1, j1, k2, k3, j2, j3⟩
theorem bestL_some {g : Gm} {ss ts : List Lt} {ch : List Lt} (h : bestL g ss ts = some ch) : ∃ s ∈ ss, ∃ t ∈ ts, bestC g s t = some ch := by
  rcases pickC_cases (prsC g ss ts) with ⟨e, _⟩ | ⟨c, e, hm, _⟩
  · have h : pickC (prsC g ss ts) = some ch := h
    rw [e] at h; cases h
  · have h : pickC (prsC g ss ts) = some ch := h
    rw [e] at h
    injection h with h
    subst h
    exact prsC_mem.mp hm
theorem gv_lits {gv : List Str} {b : Bool} {s : Lt} (h : s ∈ gv.map fun n => (n, b)) : s.2 = b ∧ s.1 ∈ gv := by
  obtain ⟨n, hn, rfl⟩ := List.mem_map.mp h
  exact ⟨rfl, hn⟩
theorem conf_eq (g : Gm) (gv : List Str) : conflC g (gvS gv) = bestL g (gv.map fun n => (n, true)) (gv.map fun n => (n, false)) := conflC_eq fun n => gvS_mem
theorem conf_ok {g : Gm} (hg : GmOk g) {gv : List Str} (hv : ∀ n ∈ gv, n ∈ g.names) {ch : List Lt} (h : conflC g (gvS gv) = some ch) : ∃ cs s b, SwOk g gv ch cs s b := by
  rw [conf_eq] at h
  obtain ⟨s, hs, t, ht, e⟩ := bestL_some h
  obtain ⟨s1, s2⟩ := gv_lits hs
  obtain ⟨t1, t2⟩ := gv_lits ht
  obtain ⟨cs, k1, k2, k3⟩ := best_ok hg (hv _ s2) e
  exact ⟨cs, s, t, k1, hv, k2, k3, s1, s2, t1, t2⟩
theorem chainFor_eq (g : Gm) (gv : List Str) (l : Lt) : chainFor g (gvS gv) l = bestL g ((gv.map fun n => (n, true)) ++ [neg l]) [l] := by
  unfold chainFor
  refine bestOf_eq fun s => ?_
  rw [List.mem_append, List.mem_append, List.mem_map, List.mem_map]
  exact or_congr ⟨fun ⟨n, h, e⟩ => ⟨n, gvS_mem.mp h, e⟩, fun ⟨n, h, e⟩ => ⟨n, gvS_mem.mpr h, e⟩⟩ Iff.rfl
theorem for_ok {g : Gm} (hg : GmOk g) {gv : List Str} (hv : ∀ n ∈ gv, n ∈ g.names) {l : Lt} (hl : l.1 ∈ g.names) {ch : List Lt} (h : chainFor g (gvS gv) l = some ch) : ∃ cs s, JuOk g gv l.1 ch cs s l := by
  rw [chainFor_eq] at h
  obtain ⟨s, hs, t, ht, e⟩ := bestL_some h
  rw [List.mem_singleton.mp ht] at e
  rcases List.mem_append.mp hs with hs | hs
  · obtain ⟨s1, s2⟩ := gv_lits hs
    obtain ⟨cs, k1, k2, k3⟩ := best_ok hg (hv _ s2) e
    exact ⟨cs, s, k1, hv, hl, k2, k3, rfl, .inr ⟨s1, s2⟩⟩
  · have hs := List.mem_singleton.mp hs
    obtain ⟨cs, k1, k2, k3⟩ := best_ok hg (s := s) (by rw [hs]; exact hl) e
    exact ⟨cs, s, k1, hv, hl, k2, k3, rfl, .inl hs⟩
/-- the word and what goes with it -/
theorem verd_cases (g : Gm) (ns : List Str) (n : Str) : (verdF g ns n ∈ (["given", "possible"] : List Str) ∧ verdF g ns n ∉ (["required", "impossible"] : List Str)) ∨
    ∃ (k : Bool) (ch : List Lt), verdF g ns n = (if k = true then ("required" : Str) else ("impossible" : Str)) ∧ verdF g ns n ∈ (["required", "impossible"] : List Str) ∧ verdF g ns n ∉ (["given", "possible"] : List Str) ∧ decide (verdF g ns n = "required") = k ∧ chainFor g ns (n, k) = some ch := by
  unfold verdF
  split
  · exact .inl ⟨by decide +kernel, by decide +kernel⟩
  · split
    · rename_i h
      obtain ⟨ch, e⟩ := Option.isSome_iff_exists.mp h
      exact .inr ⟨true, ch, by decide +kernel, by decide +kernel, by decide +kernel, by decide +kernel, e⟩
    · split
      · rename_i h
        obtain ⟨ch, e⟩ := Option.isSome_iff_exists.mp h
        exact .inr ⟨false, ch, by decide +kernel, by decide +kernel, by decide +kernel, by decide +kernel, e⟩
      · exact .inl ⟨by decide +kernel, by decide +kernel⟩
theorem verdL_val {g : Gm} {gv : List Str} {n : Str} (hn : n ∈ g.names) : valD (verdL g gv) (.inr n) = some (.str (verdF g (gvS gv) n)) := by
  unfold verdL
  revert hn
  generalize g.names = xs
  intro hn
  induction xs with
  | nil => cases hn
  | cons m xs ih =>
    rw [List.map_cons, valD_cons]
    by_cases e : m = n
    · subst e
      rw [if_pos rfl]
    · rw [if_neg (fun z => e (by injection z))]
      exact ih ((List.mem_cons.mp hn).resolve_left fun z => e z.symm)
end Fc
/-! FcLz: law: what comes behind the turns. -/
namespace Fc
open PySem PySem.W PySem.Spec PySem.Calls PyProof.Rows L2 LamX
section
variable {P : Program} {w : World} {K : PySem.W.Frag} {mg : Str → Option Value} {base : Heap}
def ltsD (gv : List Str) (b : Bool) : PyData := .list ((gv.map fun n => (n, b)).map litD)
abbrev stT (K : PySem.W.Frag) (g : Gm) (ns : List Int) (r : Rw) (gv : List Str) : Rho := [.per (dat K (.list (ns.map .int))), .own (rowO K none r), .per (dat K (gmD g)), .per (dat K (.list (g.names.map .str))), .per (dat K (.list ((setsK g).map sD))), .per (dat K (.list ((lits2 g).map litD))), .no, .no, .no, .no, .no, .no, .per (dat K (.list (gv.map .str))), .per (dat K (ltsD gv true)), .no, .no, .no, .no, .no]
abbrev tailB : List Stmt := match defBody s_law with
  | _ :: _ :: _ :: _ :: _ :: _ :: _ :: r => r
  | _ => []
abbrev tailB2 : List Stmt := match defBody s_law with
  | _ :: _ :: _ :: _ :: _ :: _ :: _ :: _ :: r => r
  | _ => []
abbrev tailB3 : List Stmt := match defBody s_law with
  | _ :: _ :: _ :: _ :: _ :: _ :: _ :: _ :: _ :: r => r
  | _ => []
/-- no set is accepted -/
theorem law_none (T : Txt K mg) {f c : Addr} {A : Around} {outer : List PySem.Env} {s : Shared} {H : Hp} {E : XK} (hr : Room 11 (A.deeper (envOfC "law" (defScope s_law) s.heap.objs.size f (.ref c)))) {g : Gm} (hg : GmOk g) {ns : List Int} {r : Rw} {gv : List Str} (hs : setsK g = []) :
    ∃ ρ', PSs (cxL P w K mg base f c A outer s H E) tailB (tS (stT K g ns r gv) (.rt (dat K (.bool true)) ρ')) := by
  have nd := sc_law.nd
  have hu64 := hr.units
  obtain ⟨⟨pa, pb⟩, hf⟩ : ∃ p, findCon g = some p := Option.ne_none_iff_exists'.mp ((setsK_nil hg).mp hs)
  obtain ⟨cs, cs2, a, hb⟩ := con_some hg hf
  have e1 : PyData.eqv (.list ((setsK g).map sD)) (.list []) = true := by rw [hs]; rfl
  have pS : Pl (.list ((setsK g).map sD)) := plT (α := List (List Str)) (setsK g)
  have e2 : PyData.eqv (oD2 (findCon g)) (oD2 (findCon g)) = true := by rw [hf]; exact (Datum.eqv (α := List Lt × List Lt) (pa, pb) (pa, pb)).trans (decide_eq_true rfl)
  have pC : Pl (oD2 (findCon g)) := by rw [hf]; exact plT (α := List Lt × List Lt) (pa, pb)
  refine ⟨(stT K g ns r gv).set 14 (.per (dat K (oD2 (findCon g)))), b_ifr (X := cxL P w K mg base f c A outer s H E) (k := true) (t_cmp (op_eqP hu64) (opd_eqP pS (plT (α := List (List Str)) []) e1) (d_var 4) (d_lst (ds := []) a_nil)) (fun _ => b_cons (s_set 14 (d_callT T.law_contrary (ok_lcontrary T) g hg hr (a_cons (d_var 2) (a_cons (d_var 3) a_nil))))
    (b_ret (s_ret (d_and (k := true) (k' := true) (d_cmp (op_eqP hu64) (opd_eqP pC pC e2) (d_callT T.contradiction (ok_contradiction T) g hg hr (a_cons (d_var 2) a_nil)) (d_var 14))
      (fun _ => d_one (d_callT T.shows_contradiction (ok_shows_contradiction T) (g, pa, cs, pb, cs2, a) hb hr (a_cons (d_var 2) (a_cons (d_eq (d_var 14) (by rw [hf]; try rfl)) a_nil)))))))) (fun h => nomatch h)⟩
/-- the given options are in conflict -/
theorem law_conf (T : Txt K mg) {f c : Addr} {A : Around} {outer : List PySem.Env} {s : Shared} {H : Hp} {E : XK} (hr : Room 11 (A.deeper (envOfC "law" (defScope s_law) s.heap.objs.size f (.ref c)))) {g : Gm} (hg : GmOk g) {ns : List Int} {r : Rw} {gv : List Str} (hv : ∀ n ∈ gv, n ∈ g.names) (h3 : gv.length ≤ 3) {ch : List Lt} (hc : conflC g (gvS gv) = some ch) :
    ∃ ρ', PSs (cxL P w K mg base f c A outer s H E) tailB3 (tS ((stT K g ns r gv).set 15 (.per (dat K (resD (some ch))))) (.rt (dat K (.bool true)) ρ')) := by
  have nd := sc_law.nd
  have hu64 := hr.units
  obtain ⟨cs, a, b, hw⟩ := conf_ok hg hv hc
  have pW : Pl (resD (some ch)) := plT (α := Str × List Lt) ("conflict", ch)
  have eW : PyData.eqv (resD (some ch)) (resD (some ch)) = true := (Datum.eqv (α := Str × List Lt) ("conflict", ch) ("conflict", ch)).trans (decide_eq_true rfl)
  have hst : ∀ x ∈ gv.map (fun n => (n, true)), x.1 ∈ g.names := fun x hx => hv _ (gv_lits hx).2
  have hl : ∀ b : Bool, (gv.map fun n => (n, b)).length ≤ 100 := fun b => by rw [List.length_map]; omega
  refine ⟨((stT K g ns r gv).set 15 (.per (dat K (resD (some ch))))).set 16 (.per (dat K (oD (some ch)))), b_ifr (X := cxL P w K mg base f c A outer s H E) (k := true) (t_cmp op_notN (opd_notN (d := resD (some ch)) rfl) (d_var 15) d_non) (fun _ => b_cons (s_set 16 (d_eq (d_callT T.law_best (ok_lbest T) (g, gv.map (fun n => (n, true)), gv.map (fun n => (n, false))) ⟨hg, hst, hl true, hl false⟩ hr
      (a_cons (d_var 2) (a_cons (d_var 13) (a_cons (d_eq (d_lcA (lc_one gv (fun n => dat K (.str n)) (fun n => litD (n, false)) 6 (i_listT (d_var 12)) (blkOk_by (N := NLw) (sc := defScope s_law) (by decide +kernel)) (fun _ _ _ _ _ => pg_name (i := 6) nd rfl (.inl rfl)) rfl (by omega)
        (fun n hn _ _ _ _ _ => d_tup (ds := [.str n, .bool false]) (a_cons (d_var 6) (a_cons d_bl a_nil))))) ?e1) a_nil)))) ?e2))
    (b_ret (s_ret (d_and (k := true) (k' := true) (d_cmp (op_eqP hu64) (opd_eqP pW pW eW) (d_var 15) (d_tup (ds := [.str "conflict", .list (ch.map litD)]) (a_cons d_str (a_cons (d_var 16) a_nil))))
      (fun _ => d_one (d_callT T.shows_conflict (ok_shows_conflict T) (g, gv, ch, cs, a, b) hw hr (a_cons (d_var 2) (a_cons (d_var 12) (a_cons (d_var 16) a_nil))))))))) (fun h => nomatch h)⟩
  case e1 => rw [List.map_map]; rfl
  case e2 => rw [← conf_eq, hc]
end
end Fc
/-! FcLq: law: no conflict: each option's verdict is judged. -/
namespace Fc
open PySem PySem.W PySem.Spec PySem.Calls PyProof.Rows L2 LamX
section
variable {P : Program} {w : World} {K : PySem.W.Frag} {mg : Str → Option Value} {base : Heap}
theorem law_free (T : Txt K mg) {f c : Addr} {A : Around} {outer : List PySem.Env} {s : Shared} {H : Hp} {E : XK} (hr : Room 11 (A.deeper (envOfC "law" (defScope s_law) s.heap.objs.size f (.ref c)))) {g : Gm} {ns : List Int} {r : Rw} {gv : List Str} (hf : FreeOk g gv) (h3 : gv.length ≤ 3) :
    ∃ ρ', PSs (cxL P w K mg base f c A outer s H E) tailB3 (tS ((stT K g ns r gv).set 15 (.per (dat K (resD none)))) (.rt (dat K (.bool true)) ρ')) := by
  have nd := sc_law.nd
  have hu := hu_of hr
  have hu64 := hr.units
  have hg : GmOk g := hf.gv.gm
  have hv : ∀ n ∈ gv, n ∈ g.names := hf.gv.nm
  let st : Rho := (stT K g ns r gv).set 15 (.per (dat K (resD none)))
  refine ⟨st, b_no (X := cxL P w K mg base f c A outer s H E) (t_cmp op_notN (opd_notN (d := resD none) rfl) (d_var 15) d_non)
    (b_cons (s_for (vs := [6]) (i_listT (xs := g.names) (f := .str) (d_var 3)) (pg_name (i := 6) nd rfl (.inl rfl)) (fun _ => st) (fun i => st.set 6 (.per (dat K ((g.names[i]?.map .str).getD .none)))) (Sub.refl _) ?ht ?body)
    (b_ret (s_ret d_bl)))⟩
  case ht =>
    intro i r h
    obtain ⟨n, hn, _, rfl⟩ := get_map h
    try dsimp only
    rw [hn]
    exact tg_name (by decide)
  case body =>
    intro i r h
    obtain ⟨n, hn, hm, rfl⟩ := get_map h
    try dsimp only
    rw [hn]
    have hval := verdL_val (gv := gv) hm
    rcases verd_cases g (gvS gv) n with ⟨v1, v2⟩ | ⟨k, ch, v1, v2, v3, v4, v5⟩
    · have eX : explF g gv n = none := by unfold explF; rw [if_pos v1]
      have pX : Pl (oD (explF g gv n)) := pl_oD _
      have eE : (!PyData.eqv (oD (explF g gv n)) (oD none)) = false := by rw [eX]; rfl
      refine ⟨((st.set 6 (.per (dat K (.str n)))).set 17 (.per (dat K (.str (verdF g (gvS gv) n))))).set 18 (.per (dat K .none)), b_cons (s_par (ra := dat K (.str (verdF g (gvS gv) n))) (rb := dat K .none) 17 18 (a_cons (d_ix (ix_kd hu) (opd_kdGet hval) (d_callT T.verdicts (ok_verdicts T) (g, gv) hf hr (a_cons (d_var 2) (a_cons (d_var 12) a_nil))) (d_var 6)) (a_cons d_non a_nil)))
        (b_no (t_cmp op_in_seq (opd_inT (x := verdF g (gvS gv) n) (xs := ["required", "impossible"]) (decide_eq_false v2)) (d_var 17) (d_tup (ds := [.str "required", .str "impossible"]) (a_cons d_str (a_cons d_str a_nil))))
        (b_no (t_cmp (op_neP hu64) (opd_neP pX (pl_oD none) eE) (d_callT T.explain_verdict (ok_explain_verdict T) (g, gv, n) ⟨hf, hm⟩ hr (a_cons (d_var 2) (a_cons (d_var 12) (a_cons (d_var 6) a_nil)))) (d_var 18)) b_nil)), ?s1⟩
      case s1 => exact Sub.cons (Sub.cons (Sub.cons (Sub.cons (Sub.cons (Sub.cons (Sub.drop (Sub.cons (Sub.cons (Sub.cons (Sub.cons (Sub.cons (Sub.cons (Sub.cons (Sub.cons (Sub.cons (Sub.cons (Sub.drop (Sub.drop Sub.nil))))))))))))))))))
    · have eX : explF g gv n = some ch := by unfold explF; rw [if_neg v3, v4, v5]
      have pX : Pl (oD (explF g gv n)) := pl_oD _
      have eE : (!PyData.eqv (oD (explF g gv n)) (oD (some ch))) = false := by rw [eX, eqv_oD]; rfl
      obtain ⟨cs, s0, hju⟩ := for_ok hg hv (l := (n, k)) hm v5
      have hst : ∀ x ∈ gv.map (fun n => (n, true)) ++ [(n, !k)], x.1 ∈ g.names := fun x hx => by
        rcases List.mem_append.mp hx with hx | hx
        · exact hv _ (gv_lits hx).2
        · rw [List.mem_singleton.mp hx]; exact hm
      have hl : (gv.map (fun n => (n, true)) ++ [(n, !k)]).length ≤ 100 := by rw [List.length_append, List.length_map]; show _ + 1 ≤ _; omega
      have hl0 : ((gv.map fun n => (n, true)).map litD).length + [litD (n, !k)].length ≤ 1000000 := by rw [List.length_map, List.length_map]; show _ + 1 ≤ _; omega
      refine ⟨(((st.set 6 (.per (dat K (.str n)))).set 17 (.per (dat K (.str (verdF g (gvS gv) n))))).set 9 (.per (dat K (litD (n, k))))).set 18 (.per (dat K (oD (some ch)))), b_cons (s_par (ra := dat K (.str (verdF g (gvS gv) n))) (rb := dat K .none) 17 18 (a_cons (d_ix (ix_kd hu) (opd_kdGet hval) (d_callT T.verdicts (ok_verdicts T) (g, gv) hf hr (a_cons (d_var 2) (a_cons (d_var 12) a_nil))) (d_var 6)) (a_cons d_non a_nil)))
        (b_cons (s_if (k := true) (t_cmp op_in_seq (opd_inT (x := verdF g (gvS gv) n) (xs := ["required", "impossible"]) (decide_eq_true v2)) (d_var 17) (d_tup (ds := [.str "required", .str "impossible"]) (a_cons d_str (a_cons d_str a_nil))))
          (fun _ => b_cons (s_set 9 (d_tup (ds := [.str n, .bool k]) (a_cons (d_var 6) (a_cons (d_cmp op_eq (opd_eqS v4) (d_var 17) d_str) a_nil))))
            (b_cons (s_set 18 (d_eq (d_callT T.law_best (ok_lbest T) (g, gv.map (fun n => (n, true)) ++ [(n, !k)], [(n, k)]) ⟨hg, hst, hl, by show 1 ≤ 100; decide⟩ hr (a_cons (d_var 2) (a_cons (d_eq (d_bin op_catQ (opd_cat' (ds := (gv.map fun n => (n, true)).map litD) (es := [litD (n, !k)]) hl0) (d_var 13) (d_lst (ds := [litD (n, !k)]) (a_cons (d_tup (ds := [.str n, .bool (!k)]) (a_cons (d_var 6) (a_cons (d_cmp op_ne (opd_neS (by rw [v4])) (d_var 17) d_str) a_nil))) a_nil))) ?e1)
                (a_cons (d_lst (ds := [litD (n, k)]) (a_cons (d_var 9) a_nil)) a_nil)))) ?e2))
            (b_no (t_cmp op_ne (opd_neS (i := verdF g (gvS gv) n) (j := verdF g (gvS gv) n) (by rw [decide_eq_true rfl]; rfl)) (d_eq (d_callT T.judge (ok_judge T) (g, gv, n, ch, cs, s0, (n, k)) hju hr (a_cons (d_var 2) (a_cons (d_var 12) (a_cons (d_var 6) (a_cons (d_var 18) a_nil))))) ?e3) (d_var 17)) b_nil))) (fun h => nomatch h))
        (b_no (t_cmp (op_neP hu64) (opd_neP pX (pl_oD (some ch)) eE) (d_callT T.explain_verdict (ok_explain_verdict T) (g, gv, n) ⟨hf, hm⟩ hr (a_cons (d_var 2) (a_cons (d_var 12) (a_cons (d_var 6) a_nil)))) (d_var 18)) b_nil)), ?s2⟩
      case e1 => rw [List.map_append]; rfl
      case e2 => rw [show (n, !k) = neg (n, k) from rfl, ← chainFor_eq, v5]
      case e3 => rw [v1]
      case s2 => exact Sub.cons (Sub.cons (Sub.cons (Sub.cons (Sub.cons (Sub.cons (Sub.drop (Sub.cons (Sub.cons (Sub.drop (Sub.cons (Sub.cons (Sub.cons (Sub.cons (Sub.cons (Sub.cons (Sub.cons (Sub.drop (Sub.drop Sub.nil))))))))))))))))))
end
end Fc
/-! FcLr: law, whole. -/
namespace Fc
open PySem PySem.W PySem.Spec PySem.Calls PyProof.Rows L2 LamX
section
variable {P : Program} {w : World} {K : PySem.W.Frag} {mg : Str → Option Value} {base : Heap}
/-- behind the given options -/
theorem law_tail (T : Txt K mg) (TX : TxtX K mg T) (TR : TxtR K mg T TX) {f c PL : Addr} (TB : TabB base mg c PL) {A : Around} {outer : List PySem.Env} {s : Shared} {H : Hp} {E : XK} (hr : Room 11 (A.deeper (envOfC "law" (defScope s_law) s.heap.objs.size f (.ref c)))) {g : Gm} (hg : GmOk g) {ns : List Int} {r : Rw} {gv : List Str} (hv : ∀ n ∈ gv, n ∈ g.names) (h3 : gv.length ≤ 3) :
    PSs (cxL P w K mg base f c A outer s H E) tailB (tL [PL] (stT K g ns r gv)) := by
  have nd := sc_law.nd
  have hu64 := hr.units
  by_cases hs : setsK g = []
  · obtain ⟨ρ', h⟩ := law_none (P := P) (w := w) (base := base) (f := f) (c := c) (outer := outer) (s := s) (H := H) (E := E) (ns := ns) (r := r) (gv := gv) T hr hg hs
    exact bL_end h
  · have sat : findCon g = none := by
      cases h : findCon g with
      | none => rfl
      | some p => exact absurd ((setsK_nil hg).mpr (by rw [h]; exact Option.some_ne_none p)) hs
    have e1 : PyData.eqv (.list ((setsK g).map sD)) (.list []) = false := (Datum.eqv (α := List (List Str)) (setsK g) []).trans (decide_eq_false hs)
    have pS : Pl (.list ((setsK g).map sD)) := plT (α := List (List Str)) (setsK g)
    have hgv : GvOk g gv := ⟨hg, hv, by omega⟩
    refine bL_no (X := cxL P w K mg base f c A outer s H E) (t_cmp (op_eqP hu64) (opd_eqP pS (plT (α := List (List Str)) []) e1) (d_var 4) (d_lst (ds := []) a_nil)) ?_
    cases hc : conflC g (gvS gv) with
    | none =>
      obtain ⟨ρ', h⟩ := law_free (P := P) (w := w) (base := base) (f := f) (c := c) (outer := outer) (s := s) (H := H) (E := E) (ns := ns) (r := r) (gv := gv) T hr ⟨hgv, sat, hc⟩ h3
      refine bL_tab (X := cxL P w K mg base f c A outer s H E) (Ps' := []) (s_setTab 15 (pe_raised T TX TR none (rv := kdR K (verdL g gv)) TB rfl (lamS_by (sc := defScope s_law) (by decide +kernel)) (k := 9) hr (fun A' outer' s' H' E' f' c' hr2 => ?b1))) (bL_end h) List.mem_cons_self (fun p hp => nomatch hp)
      case b1 => exact d_callT T.verdicts (ok_verdicts T) (g, gv) ⟨hgv, sat, hc⟩ hr2 (a_cons (d_var 2) (a_cons (d_var 12) a_nil))
    | some ch =>
      obtain ⟨ρ', h⟩ := law_conf (P := P) (w := w) (base := base) (f := f) (c := c) (outer := outer) (s := s) (H := H) (E := E) (ns := ns) (r := r) (gv := gv) T hr hg hv h3 hc
      refine bL_tab (X := cxL P w K mg base f c A outer s H E) (Ps' := []) (s_setTab 15 (pe_raised T TX TR (some ch) (rv := kdR K (verdL g gv)) TB rfl (lamS_by (sc := defScope s_law) (by decide +kernel)) (k := 9) hr (fun A' outer' s' H' E' f' c' hr2 => ?b2))) (bL_end h) List.mem_cons_self (fun p hp => nomatch hp)
      case b2 => exact d_callX T.verdicts (ok_verdictsX T TX) (g, gv, ch) ⟨hgv, sat, hc⟩ (takes_of rfl rfl rfl rfl) hr2 (a_cons (d_var 2) (a_cons (d_var 12) a_nil))
theorem ok_law (T : Txt K mg) (TX : TxtX K mg T) (TR : TxtR K mg T TX) (C : TxtC K mg base T) : FnOk P w K mg base CX0 12 T.law.a T.law.d ["_law_script"] (spLawT K C.PS C.PL) := by
  have nd := sc_law.nd
  refine fn_law C.fL (k := 11) (fun A outer s H E ns hr hns => ?_)
  have h128 := hu128 hr
  have hr0 : RwOk ⟨ns, 0, 0, 0⟩ := ⟨⟨by show (0 : Int) ≤ 0; decide, by show (0 : Int) < 2147483647; decide⟩, by show (0 : Int) ≤ 0; decide, by show ns.length ≤ 1000; omega⟩
  obtain ⟨hr1, hg⟩ := gramR_ok hr0
  obtain ⟨g, r1, eg⟩ : ∃ g r1, gramR ⟨ns, 0, 0, 0⟩ = (g, r1) := ⟨_, _, rfl⟩
  rw [eg] at hr1 hg
  dsimp only at hr1 hg
  have hlen : 1 ≤ g.ops.length ∧ g.ops.length ≤ 5 := GmOk.len hg
  have hnm : g.names.length = g.ops.length := List.length_map _
  have hl : 1 ≤ (lits2 g).length := by rw [lits2_len]; omega
  have hok := turnR_ok hl hr1
  let r3 := turnR (lits2 g) r1 3
  obtain ⟨q1, q2, q3⟩ := givenR_ok hg (hok 3)
  obtain ⟨gv, r4, ev⟩ : ∃ gv r4, givenR g r3 = (gv, r4) := ⟨_, _, rfl⟩
  rw [show turnR (lits2 g) r1 3 = r3 from rfl, ev] at q1 q2 q3
  dsimp only at q1 q2 q3
  let X := cxL P w K mg base T.law.a C.cL A outer s H E
  have lcN : ∀ (b : Bool) (ρ : Rho), True := fun _ _ => trivial
  refine bL_cons (X := X) (s_new 1 (n_as (c' := rowO K none ⟨ns, 0, 0, 0⟩) (n_lst (ds := rwD ⟨ns, 0, 0, 0⟩) (a_cons (d_var 0) (a_cons d_int (a_cons d_int (a_cons d_int a_nil))))) (fun a B H h => ⟨fun x h => (nomatch h), h⟩))) ?_
  refine bL_cons (X := X) (s_set 2 (d_callW (o := none) (rw1 := r1) (rr := dat K (gmD g)) T.law_grammar (ok_lgrammar T) ⟨ns, 0, 0, 0⟩ 1 hr0 hr (a_cons d_int a_nil) rfl rfl (by show (gramR ⟨ns, 0, 0, 0⟩).2 = r1; rw [eg]) (by show dat K (gmD (gramR ⟨ns, 0, 0, 0⟩).1) = _; rw [eg]))) ?_
  refine bL_tab (X := X) (Ps' := [C.PL]) (s_parTab 3 4 (d_callT T.law_names (ok_lnames T) g hlen.2 hr (a_cons (d_var 2) a_nil)) (d_callTab T.law_sets (ok_lsets T C) g hlen.2 hr (a_cons (d_var 2) a_nil))) ?_ List.mem_cons_self (fun p hp => by rw [List.mem_singleton.mp hp]; exact ⟨by simp, C.ne⟩)
  refine bL_cons (X := X) (s_set 5 (d_sorted (α := Lt) (xs := g.names.map (fun n => (n, true)) ++ g.names.map fun n => (n, false)) h128 T.z_sorted (d_eq (d_bin op_catQ (opd_cat' (ds := g.names.map fun n => litD (n, true)) (es := g.names.map fun n => litD (n, false)) (by rw [List.length_map, List.length_map]; omega))
      (d_lcA (lc_one g.names (fun n => dat K (.str n)) (fun n => litD (n, true)) 6 (i_listT (d_var 3)) (blkOk_by (N := NLw) (sc := defScope s_law) (by decide +kernel)) (fun _ _ _ _ _ => pg_name (i := 6) nd rfl (.inl rfl)) rfl (by omega)
        (fun n hn _ _ _ _ _ => d_tup (ds := [.str n, .bool true]) (a_cons (d_var 6) (a_cons d_bl a_nil)))))
      (d_lcA (lc_one g.names (fun n => dat K (.str n)) (fun n => litD (n, false)) 6 (i_listT (d_var 3)) (blkOk_by (N := NLw) (sc := defScope s_law) (by decide +kernel)) (fun _ _ _ _ _ => pg_name (i := 6) nd rfl (.inl rfl)) rfl (by omega)
        (fun n hn _ _ _ _ _ => d_tup (ds := [.str n, .bool false]) (a_cons (d_var 6) (a_cons d_bl a_nil)))))) ?e1) ?e2)) ?_
  case e1 =>
    rw [List.map_append, List.map_map, List.map_map]
    rfl
  case e2 =>
    rw [List.length_append, List.length_map, List.length_map]
    omega
  refine bL_cons (X := X) (s_for (vs := [7]) (i_range (n := 3) T.z_range (a_cons d_int a_nil) (by decide)) (pg_name (i := 7) nd rfl (.inl rfl)) (fun i => stL K g ns (turnR (lits2 g) r1 i)) (fun i => (stL K g ns (turnR (lits2 g) r1 i)).set 7 (.per (dat K (.int (i : Int))))) (Sub.refl _) ?ht ?body) ?_
  case ht =>
    intro i rr h
    obtain ⟨hi, rfl⟩ := rng_get h
    exact tg_name (by decide)
  case body =>
    intro i rr h
    obtain ⟨hi, rfl⟩ := rng_get h
    exact law_turn T hr hg (hok i) i
  refine bL_pre (X := X) (ρ1 := stL K g ns r3) ?_ ?pre
  case pre =>
    rw [rangeR_len]
    exact Sub.refl _
  refine bL_cons (X := X) (s_set 12 (d_callW (o := none) (rw1 := r4) (rr := dat K (.list (gv.map .str))) T.law_given (ok_lgiven T) (r3, g) 1 ⟨hok 3, hg⟩ hr (a_cons (d_var 2) a_nil) rfl rfl (by show (givenR g r3).2 = r4; rw [ev]) (by show dat K (.list ((givenR g r3).1.map .str)) = _; rw [ev]))) ?_
  refine bL_cons (X := X) (s_lcA 13 (lc_one gv (fun n => dat K (.str n)) (fun n => litD (n, true)) 6 (i_listT (d_var 12)) (blkOk_by (N := NLw) (sc := defScope s_law) (by decide +kernel)) (fun _ _ _ _ _ => pg_name (i := 6) nd rfl (.inl rfl)) rfl (by omega)
        (fun n hn _ _ _ _ _ => d_tup (ds := [.str n, .bool true]) (a_cons (d_var 6) (a_cons d_bl a_nil))))) ?_
  have e3 : PyData.list (gv.map fun n => litD (n, true)) = ltsD gv true := by unfold ltsD; rw [List.map_map]; rfl
  have fin := law_tail (P := P) (w := w) (base := base) (outer := outer) (s := s) (H := H) (E := E) (ns := ns) (r := r4) T TX TR C.tL hr hg q2 q3
  refine bL_pre (X := X) (ρ1 := stT K g ns r4 gv) fin ?pre2
  case pre2 =>
    rw [e3]
    exact Sub.refl _
end
end Fc
set_option maxHeartbeats 0
/-! FcHd: what the law asks of what the top has left (printed by gen2.py). -/
namespace Fc
open PySem PySem.W PySem.Spec PyProof.Rows L2 LamX
def strU (x : Str) : Value → Bool
  | .str y _ => decide (y = x)
  | _ => false
theorem strU_ok {x : Str} {u : Value} (h : strU x u = true) : RelV (.str x) u := by
  cases u with
  | str y t => exact ⟨t, by rw [of_decide_eq_true (show decide (y = x) = true from h)]⟩
  | _ => cases h
def intU (i : Int) : Value → Bool
  | .int j _ => decide (j = i)
  | _ => false
theorem intU_ok {i : Int} {u : Value} (h : intU i u = true) : RelV (.int i) u := by
  cases u with
  | int j t => exact ⟨t, by rw [of_decide_eq_true (show decide (j = i) = true from h)]⟩
  | _ => cases h
def strsU : List Str → List Value → Bool
  | [], [] => true
  | x :: xs, u :: us => strU x u && strsU xs us
  | _, _ => false
theorem strsU_ok : ∀ {xs : List Str} {us : List Value}, strsU xs us = true → Vals (xs.map V.str) us ∧ us.length = xs.length
  | [], [], _ => ⟨.nil, rfl⟩
  | x :: xs, u :: us, h => by
    obtain ⟨h1, h2⟩ := Bool.and_eq_true_iff.mp h
    obtain ⟨h3, h4⟩ := strsU_ok h2
    exact ⟨.cons (strU_ok h1) h3, by rw [List.length_cons, List.length_cons, h4]⟩
  | [], _ :: _, h => nomatch h
  | _ :: _, [], h => nomatch h
def tupU (K : Frag) (a : Addr) (xs : List Str) : Bool := match K.lookup a with
  | some ⟨.type n, _, .seq its _, _⟩ => decide (n = "tuple") && (decide (xs.length ≤ 1000000) && strsU xs its.toList)
  | _ => false
theorem tupU_ok {K : Frag} {a : Addr} {xs : List Str} (h : tupU K a xs = true) : ∀ H, SqT K H a (xs.map V.str) := by
  intro H
  unfold tupU at h
  split at h
  · rename_i n od its m sl e
    obtain ⟨h1, h2⟩ := Bool.and_eq_true_iff.mp h
    obtain ⟨h2, h3⟩ := Bool.and_eq_true_iff.mp h2
    obtain ⟨h4, h5⟩ := strsU_ok h3
    have hz : its.size = xs.length := by rw [← h5]; simp
    exact .inr ⟨_, its, m, e, by rw [of_decide_eq_true h1], rfl, by rw [hz]; exact small_sz (of_decide_eq_true h2), h4⟩
  · cases h
theorem all_mk {l : OpenLaw} {w : World} {K : Frag} {h : Heap} {mg : Str → Option Value} {fa : Addr} (X : K.In h) (G : h.Ns mainGlobals mg) (hfa : mg "law" = some (.ref fa))
    {C_Conflict C_ImplicationGraph C_Completion f_Conflict_init f_is_integer f_is_name f_is_short_name f_is_choice_word f_is_kind f_is_option f_check_options f_is_clause f_check_grammar f_names_of f_check_names f_negate f_literals_of f_ImplicationGraph_init f_ImplicationGraph_reachable f_ImplicationGraph_distances_to f_ImplicationGraph_shortest_chain f_ImplicationGraph_best_chain f_graph_of f_check_literals f_consequences f_find_chain f_find_contradiction f_contradiction f_check_satisfiable f_conflict_chain f_Completion_init f_Completion_chain_for f_Completion_verdict f_completion_of f_verdicts f_explain_verdict f_step_clause f_is_literal f_clauses_of_chain f_check_chain f_judge f_shows_conflict f_shows_contradiction f_law_taken f_law_pick f_law_kind f_law_grammar f_law_clauses f_law_literals f_law_fits f_law_subsets cd_law_subsets f_law_sets f_law_names f_law_given f_law_next_literals f_law_chains f_law_best f_law_raised f_law_contrary f_law cd_law aW CF A1 A2 A3 A4 A5 PS PL : Addr}
    {cd_Conflict_init oc_Conflict_init kV_Conflict_init dc_Conflict_init pm_Conflict_init ct_Conflict_init cd_is_integer oc_is_integer kV_is_integer dc_is_integer pm_is_integer ct_is_integer cd_is_name oc_is_name kV_is_name dc_is_name pm_is_name ct_is_name cd_is_short_name oc_is_short_name kV_is_short_name dc_is_short_name pm_is_short_name ct_is_short_name cd_is_choice_word oc_is_choice_word kV_is_choice_word dc_is_choice_word pm_is_choice_word ct_is_choice_word cd_is_kind oc_is_kind kV_is_kind dc_is_kind pm_is_kind ct_is_kind cd_is_option oc_is_option kV_is_option dc_is_option pm_is_option ct_is_option cd_check_options oc_check_options kV_check_options dc_check_options pm_check_options ct_check_options cd_is_clause oc_is_clause kV_is_clause dc_is_clause pm_is_clause ct_is_clause cd_check_grammar oc_check_grammar kV_check_grammar dc_check_grammar pm_check_grammar ct_check_grammar cd_names_of oc_names_of kV_names_of dc_names_of pm_names_of ct_names_of cd_check_names oc_check_names kV_check_names dc_check_names pm_check_names ct_check_names cd_negate oc_negate kV_negate dc_negate pm_negate ct_negate cd_literals_of oc_literals_of kV_literals_of dc_literals_of pm_literals_of ct_literals_of cd_ImplicationGraph_init oc_ImplicationGraph_init kV_ImplicationGraph_init dc_ImplicationGraph_init pm_ImplicationGraph_init ct_ImplicationGraph_init cd_ImplicationGraph_reachable oc_ImplicationGraph_reachable kV_ImplicationGraph_reachable dc_ImplicationGraph_reachable pm_ImplicationGraph_reachable ct_ImplicationGraph_reachable cd_ImplicationGraph_distances_to oc_ImplicationGraph_distances_to kV_ImplicationGraph_distances_to dc_ImplicationGraph_distances_to pm_ImplicationGraph_distances_to ct_ImplicationGraph_distances_to cd_ImplicationGraph_shortest_chain oc_ImplicationGraph_shortest_chain kV_ImplicationGraph_shortest_chain dc_ImplicationGraph_shortest_chain pm_ImplicationGraph_shortest_chain ct_ImplicationGraph_shortest_chain cd_ImplicationGraph_best_chain oc_ImplicationGraph_best_chain kV_ImplicationGraph_best_chain dc_ImplicationGraph_best_chain pm_ImplicationGraph_best_chain ct_ImplicationGraph_best_chain cd_graph_of oc_graph_of kV_graph_of dc_graph_of pm_graph_of ct_graph_of cd_check_literals oc_check_literals kV_check_literals dc_check_literals pm_check_literals ct_check_literals cd_consequences oc_consequences kV_consequences dc_consequences pm_consequences ct_consequences cd_find_chain oc_find_chain kV_find_chain dc_find_chain pm_find_chain ct_find_chain cd_find_contradiction oc_find_contradiction kV_find_contradiction dc_find_contradiction pm_find_contradiction ct_find_contradiction cd_contradiction oc_contradiction kV_contradiction dc_contradiction pm_contradiction ct_contradiction cd_check_satisfiable oc_check_satisfiable kV_check_satisfiable dc_check_satisfiable pm_check_satisfiable ct_check_satisfiable cd_conflict_chain oc_conflict_chain kV_conflict_chain dc_conflict_chain pm_conflict_chain ct_conflict_chain cd_Completion_init oc_Completion_init kV_Completion_init dc_Completion_init pm_Completion_init ct_Completion_init cd_Completion_chain_for oc_Completion_chain_for kV_Completion_chain_for dc_Completion_chain_for pm_Completion_chain_for ct_Completion_chain_for cd_Completion_verdict oc_Completion_verdict kV_Completion_verdict dc_Completion_verdict pm_Completion_verdict ct_Completion_verdict cd_completion_of oc_completion_of kV_completion_of dc_completion_of pm_completion_of ct_completion_of cd_verdicts oc_verdicts kV_verdicts dc_verdicts pm_verdicts ct_verdicts cd_explain_verdict oc_explain_verdict kV_explain_verdict dc_explain_verdict pm_explain_verdict ct_explain_verdict cd_step_clause oc_step_clause kV_step_clause dc_step_clause pm_step_clause ct_step_clause cd_is_literal oc_is_literal kV_is_literal dc_is_literal pm_is_literal ct_is_literal cd_clauses_of_chain oc_clauses_of_chain kV_clauses_of_chain dc_clauses_of_chain pm_clauses_of_chain ct_clauses_of_chain cd_check_chain oc_check_chain kV_check_chain dc_check_chain pm_check_chain ct_check_chain cd_judge oc_judge kV_judge dc_judge pm_judge ct_judge cd_shows_conflict oc_shows_conflict kV_shows_conflict dc_shows_conflict pm_shows_conflict ct_shows_conflict cd_shows_contradiction oc_shows_contradiction kV_shows_contradiction dc_shows_contradiction pm_shows_contradiction ct_shows_contradiction cd_law_taken oc_law_taken kV_law_taken dc_law_taken pm_law_taken ct_law_taken cd_law_pick oc_law_pick kV_law_pick dc_law_pick pm_law_pick ct_law_pick cd_law_kind oc_law_kind kV_law_kind dc_law_kind pm_law_kind ct_law_kind cd_law_grammar oc_law_grammar kV_law_grammar dc_law_grammar pm_law_grammar ct_law_grammar cd_law_clauses oc_law_clauses kV_law_clauses dc_law_clauses pm_law_clauses ct_law_clauses cd_law_literals oc_law_literals kV_law_literals dc_law_literals pm_law_literals ct_law_literals cd_law_fits oc_law_fits kV_law_fits dc_law_fits pm_law_fits ct_law_fits oc_law_subsets kV_law_subsets dc_law_subsets pm_law_subsets ct_law_subsets cd_law_sets oc_law_sets kV_law_sets dc_law_sets pm_law_sets ct_law_sets cd_law_names oc_law_names kV_law_names dc_law_names pm_law_names ct_law_names cd_law_given oc_law_given kV_law_given dc_law_given pm_law_given ct_law_given cd_law_next_literals oc_law_next_literals kV_law_next_literals dc_law_next_literals pm_law_next_literals ct_law_next_literals cd_law_chains oc_law_chains kV_law_chains dc_law_chains pm_law_chains ct_law_chains cd_law_best oc_law_best kV_law_best dc_law_best pm_law_best ct_law_best cd_law_raised oc_law_raised kV_law_raised dc_law_raised pm_law_raised ct_law_raised cd_law_contrary oc_law_contrary kV_law_contrary dc_law_contrary pm_law_contrary ct_law_contrary oc_law kV_law dc_law pm_law ct_law u_LETTERS u_HYPHEN u_MAX_NAME_LENGTH u_MAX_OPTIONS u_MAX_CLAUSES u_MAX_POSITIONALS u_MAX_INTEGER u_MAX_CHOICES u_MAX_WORD_LENGTH : Value}
    {od_Conflict_init an_Conflict_init od_is_integer an_is_integer od_is_name an_is_name od_is_short_name an_is_short_name od_is_choice_word an_is_choice_word od_is_kind an_is_kind od_is_option an_is_option od_check_options an_check_options od_is_clause an_is_clause od_check_grammar an_check_grammar od_names_of an_names_of od_check_names an_check_names od_negate an_negate od_literals_of an_literals_of od_ImplicationGraph_init an_ImplicationGraph_init od_ImplicationGraph_reachable an_ImplicationGraph_reachable od_ImplicationGraph_distances_to an_ImplicationGraph_distances_to od_ImplicationGraph_shortest_chain an_ImplicationGraph_shortest_chain od_ImplicationGraph_best_chain an_ImplicationGraph_best_chain od_graph_of an_graph_of od_check_literals an_check_literals od_consequences an_consequences od_find_chain an_find_chain od_find_contradiction an_find_contradiction od_contradiction an_contradiction od_check_satisfiable an_check_satisfiable od_conflict_chain an_conflict_chain od_Completion_init an_Completion_init od_Completion_chain_for an_Completion_chain_for od_Completion_verdict an_Completion_verdict od_completion_of an_completion_of od_verdicts an_verdicts od_explain_verdict an_explain_verdict od_step_clause an_step_clause od_is_literal an_is_literal od_clauses_of_chain an_clauses_of_chain od_check_chain an_check_chain od_judge an_judge od_shows_conflict an_shows_conflict od_shows_contradiction an_shows_contradiction od_law_taken an_law_taken od_law_pick an_law_pick od_law_kind an_law_kind od_law_grammar an_law_grammar od_law_clauses an_law_clauses od_law_literals an_law_literals od_law_fits an_law_fits od_law_subsets an_law_subsets od_law_sets an_law_sets od_law_names an_law_names od_law_given an_law_given od_law_next_literals an_law_next_literals od_law_chains an_law_chains od_law_best an_law_best od_law_raised an_law_raised od_law_contrary an_law_contrary od_law an_law : Option Addr}
    {sl_Conflict_init sl_is_integer sl_is_name sl_is_short_name sl_is_choice_word sl_is_kind sl_is_option sl_check_options sl_is_clause sl_check_grammar sl_names_of sl_check_names sl_negate sl_literals_of sl_ImplicationGraph_init sl_ImplicationGraph_reachable sl_ImplicationGraph_distances_to sl_ImplicationGraph_shortest_chain sl_ImplicationGraph_best_chain sl_graph_of sl_check_literals sl_consequences sl_find_chain sl_find_contradiction sl_contradiction sl_check_satisfiable sl_conflict_chain sl_Completion_init sl_Completion_chain_for sl_Completion_verdict sl_completion_of sl_verdicts sl_explain_verdict sl_step_clause sl_is_literal sl_clauses_of_chain sl_check_chain sl_judge sl_shows_conflict sl_shows_contradiction sl_law_taken sl_law_pick sl_law_kind sl_law_grammar sl_law_clauses sl_law_literals sl_law_fits sl_law_subsets sl_law_sets sl_law_names sl_law_given sl_law_next_literals sl_law_chains sl_law_best sl_law_raised sl_law_contrary sl_law : Array (Option Value)}
    {nmX qX k0X k1X k2X k3X k5X : _} {NX bsX bmX snX subX abX colX ddX : _}
    (gC_Conflict : nsIn K mainGlobals "Conflict" = some (some (.ref C_Conflict)))
    (gC_ImplicationGraph : nsIn K mainGlobals "ImplicationGraph" = some (some (.ref C_ImplicationGraph)))
    (gC_Completion : nsIn K mainGlobals "Completion" = some (some (.ref C_Completion)))
    (z_len : nsIn K mainGlobals "len" = some none)
    (z_isinstance : nsIn K mainGlobals "isinstance" = some none)
    (z_bool : nsIn K mainGlobals "bool" = some none)
    (z_str : nsIn K mainGlobals "str" = some none)
    (z_all : nsIn K mainGlobals "all" = some none)
    (z_sorted : nsIn K mainGlobals "sorted" = some none)
    (z_range : nsIn K mainGlobals "range" = some none)
    (z_enumerate : nsIn K mainGlobals "enumerate" = some none)
    (z_set : nsIn K mainGlobals "set" = some none)
    (z_list : nsIn K mainGlobals "list" = some none)
    (z_tuple : nsIn K mainGlobals "tuple" = some none)
    (z_int : nsIn K mainGlobals "int" = some none)
    (z_min : nsIn K mainGlobals "min" = some none)
    (z_ValueError : nsIn K mainGlobals "ValueError" = some none)
    (a_Conflict_init : findIn K (.ref C_Conflict) "__init__" = some (some (.ref f_Conflict_init)))
    (i_Conflict_init : isFn K (.ref f_Conflict_init) = true)
    (l_Conflict_init : K.lookup f_Conflict_init = some ⟨oc_Conflict_init, od_Conflict_init, .func (fnOf "__init__" "Conflict.__init__" (defArgs s_Conflict_init) (defBody s_Conflict_init) (defScope s_Conflict_init) .none kV_Conflict_init dc_Conflict_init pm_Conflict_init an_Conflict_init cd_Conflict_init ct_Conflict_init), sl_Conflict_init⟩)
    (c_Conflict_init : codeIn K cd_Conflict_init "Conflict.__init__" = true)
    (k_Conflict_init : keepIn K (.ref f_Conflict_init) = true)
    (a_is_integer : nsIn K mainGlobals "is_integer" = some (some (.ref f_is_integer)))
    (l_is_integer : K.lookup f_is_integer = some ⟨oc_is_integer, od_is_integer, .func (fnOf "is_integer" "is_integer" (defArgs s_is_integer) (defBody s_is_integer) (defScope s_is_integer) .none kV_is_integer dc_is_integer pm_is_integer an_is_integer cd_is_integer ct_is_integer), sl_is_integer⟩)
    (c_is_integer : codeIn K cd_is_integer "is_integer" = true)
    (k_is_integer : keepIn K (.ref f_is_integer) = true)
    (a_is_name : nsIn K mainGlobals "is_name" = some (some (.ref f_is_name)))
    (l_is_name : K.lookup f_is_name = some ⟨oc_is_name, od_is_name, .func (fnOf "is_name" "is_name" (defArgs s_is_name) (defBody s_is_name) (defScope s_is_name) .none kV_is_name dc_is_name pm_is_name an_is_name cd_is_name ct_is_name), sl_is_name⟩)
    (c_is_name : codeIn K cd_is_name "is_name" = true)
    (k_is_name : keepIn K (.ref f_is_name) = true)
    (a_is_short_name : nsIn K mainGlobals "is_short_name" = some (some (.ref f_is_short_name)))
    (l_is_short_name : K.lookup f_is_short_name = some ⟨oc_is_short_name, od_is_short_name, .func (fnOf "is_short_name" "is_short_name" (defArgs s_is_short_name) (defBody s_is_short_name) (defScope s_is_short_name) .none kV_is_short_name dc_is_short_name pm_is_short_name an_is_short_name cd_is_short_name ct_is_short_name), sl_is_short_name⟩)
    (c_is_short_name : codeIn K cd_is_short_name "is_short_name" = true)
    (k_is_short_name : keepIn K (.ref f_is_short_name) = true)
    (a_is_choice_word : nsIn K mainGlobals "is_choice_word" = some (some (.ref f_is_choice_word)))
    (l_is_choice_word : K.lookup f_is_choice_word = some ⟨oc_is_choice_word, od_is_choice_word, .func (fnOf "is_choice_word" "is_choice_word" (defArgs s_is_choice_word) (defBody s_is_choice_word) (defScope s_is_choice_word) .none kV_is_choice_word dc_is_choice_word pm_is_choice_word an_is_choice_word cd_is_choice_word ct_is_choice_word), sl_is_choice_word⟩)
    (c_is_choice_word : codeIn K cd_is_choice_word "is_choice_word" = true)
    (k_is_choice_word : keepIn K (.ref f_is_choice_word) = true)
    (a_is_kind : nsIn K mainGlobals "is_kind" = some (some (.ref f_is_kind)))
    (l_is_kind : K.lookup f_is_kind = some ⟨oc_is_kind, od_is_kind, .func (fnOf "is_kind" "is_kind" (defArgs s_is_kind) (defBody s_is_kind) (defScope s_is_kind) .none kV_is_kind dc_is_kind pm_is_kind an_is_kind cd_is_kind ct_is_kind), sl_is_kind⟩)
    (c_is_kind : codeIn K cd_is_kind "is_kind" = true)
    (k_is_kind : keepIn K (.ref f_is_kind) = true)
    (a_is_option : nsIn K mainGlobals "is_option" = some (some (.ref f_is_option)))
    (l_is_option : K.lookup f_is_option = some ⟨oc_is_option, od_is_option, .func (fnOf "is_option" "is_option" (defArgs s_is_option) (defBody s_is_option) (defScope s_is_option) .none kV_is_option dc_is_option pm_is_option an_is_option cd_is_option ct_is_option), sl_is_option⟩)
    (c_is_option : codeIn K cd_is_option "is_option" = true)
    (k_is_option : keepIn K (.ref f_is_option) = true)
    (a_check_options : nsIn K mainGlobals "check_options" = some (some (.ref f_check_options)))
    (l_check_options : K.lookup f_check_options = some ⟨oc_check_options, od_check_options, .func (fnOf "check_options" "check_options" (defArgs s_check_options) (defBody s_check_options) (defScope s_check_options) .none kV_check_options dc_check_options pm_check_options an_check_options cd_check_options ct_check_options), sl_check_options⟩)
    (c_check_options : codeIn K cd_check_options "check_options" = true)
    (k_check_options : keepIn K (.ref f_check_options) = true)
    (a_is_clause : nsIn K mainGlobals "is_clause" = some (some (.ref f_is_clause)))
    (l_is_clause : K.lookup f_is_clause = some ⟨oc_is_clause, od_is_clause, .func (fnOf "is_clause" "is_clause" (defArgs s_is_clause) (defBody s_is_clause) (defScope s_is_clause) .none kV_is_clause dc_is_clause pm_is_clause an_is_clause cd_is_clause ct_is_clause), sl_is_clause⟩)
    (c_is_clause : codeIn K cd_is_clause "is_clause" = true)
    (k_is_clause : keepIn K (.ref f_is_clause) = true)
    (a_check_grammar : nsIn K mainGlobals "check_grammar" = some (some (.ref f_check_grammar)))
    (l_check_grammar : K.lookup f_check_grammar = some ⟨oc_check_grammar, od_check_grammar, .func (fnOf "check_grammar" "check_grammar" (defArgs s_check_grammar) (defBody s_check_grammar) (defScope s_check_grammar) .none kV_check_grammar dc_check_grammar pm_check_grammar an_check_grammar cd_check_grammar ct_check_grammar), sl_check_grammar⟩)
    (c_check_grammar : codeIn K cd_check_grammar "check_grammar" = true)
    (k_check_grammar : keepIn K (.ref f_check_grammar) = true)
    (a_names_of : nsIn K mainGlobals "names_of" = some (some (.ref f_names_of)))
    (l_names_of : K.lookup f_names_of = some ⟨oc_names_of, od_names_of, .func (fnOf "names_of" "names_of" (defArgs s_names_of) (defBody s_names_of) (defScope s_names_of) .none kV_names_of dc_names_of pm_names_of an_names_of cd_names_of ct_names_of), sl_names_of⟩)
    (c_names_of : codeIn K cd_names_of "names_of" = true)
    (k_names_of : keepIn K (.ref f_names_of) = true)
    (a_check_names : nsIn K mainGlobals "check_names" = some (some (.ref f_check_names)))
    (l_check_names : K.lookup f_check_names = some ⟨oc_check_names, od_check_names, .func (fnOf "check_names" "check_names" (defArgs s_check_names) (defBody s_check_names) (defScope s_check_names) .none kV_check_names dc_check_names pm_check_names an_check_names cd_check_names ct_check_names), sl_check_names⟩)
    (c_check_names : codeIn K cd_check_names "check_names" = true)
    (k_check_names : keepIn K (.ref f_check_names) = true)
    (a_negate : nsIn K mainGlobals "negate" = some (some (.ref f_negate)))
    (l_negate : K.lookup f_negate = some ⟨oc_negate, od_negate, .func (fnOf "negate" "negate" (defArgs s_negate) (defBody s_negate) (defScope s_negate) .none kV_negate dc_negate pm_negate an_negate cd_negate ct_negate), sl_negate⟩)
    (c_negate : codeIn K cd_negate "negate" = true)
    (k_negate : keepIn K (.ref f_negate) = true)
    (a_literals_of : nsIn K mainGlobals "literals_of" = some (some (.ref f_literals_of)))
    (l_literals_of : K.lookup f_literals_of = some ⟨oc_literals_of, od_literals_of, .func (fnOf "literals_of" "literals_of" (defArgs s_literals_of) (defBody s_literals_of) (defScope s_literals_of) .none kV_literals_of dc_literals_of pm_literals_of an_literals_of cd_literals_of ct_literals_of), sl_literals_of⟩)
    (c_literals_of : codeIn K cd_literals_of "literals_of" = true)
    (k_literals_of : keepIn K (.ref f_literals_of) = true)
    (a_ImplicationGraph_init : findIn K (.ref C_ImplicationGraph) "__init__" = some (some (.ref f_ImplicationGraph_init)))
    (i_ImplicationGraph_init : isFn K (.ref f_ImplicationGraph_init) = true)
    (l_ImplicationGraph_init : K.lookup f_ImplicationGraph_init = some ⟨oc_ImplicationGraph_init, od_ImplicationGraph_init, .func (fnOf "__init__" "ImplicationGraph.__init__" (defArgs s_ImplicationGraph_init) (defBody s_ImplicationGraph_init) (defScope s_ImplicationGraph_init) .none kV_ImplicationGraph_init dc_ImplicationGraph_init pm_ImplicationGraph_init an_ImplicationGraph_init cd_ImplicationGraph_init ct_ImplicationGraph_init), sl_ImplicationGraph_init⟩)
    (c_ImplicationGraph_init : codeIn K cd_ImplicationGraph_init "ImplicationGraph.__init__" = true)
    (k_ImplicationGraph_init : keepIn K (.ref f_ImplicationGraph_init) = true)
    (a_ImplicationGraph_reachable : findIn K (.ref C_ImplicationGraph) "reachable" = some (some (.ref f_ImplicationGraph_reachable)))
    (i_ImplicationGraph_reachable : isFn K (.ref f_ImplicationGraph_reachable) = true)
    (l_ImplicationGraph_reachable : K.lookup f_ImplicationGraph_reachable = some ⟨oc_ImplicationGraph_reachable, od_ImplicationGraph_reachable, .func (fnOf "reachable" "ImplicationGraph.reachable" (defArgs s_ImplicationGraph_reachable) (defBody s_ImplicationGraph_reachable) (defScope s_ImplicationGraph_reachable) .none kV_ImplicationGraph_reachable dc_ImplicationGraph_reachable pm_ImplicationGraph_reachable an_ImplicationGraph_reachable cd_ImplicationGraph_reachable ct_ImplicationGraph_reachable), sl_ImplicationGraph_reachable⟩)
    (c_ImplicationGraph_reachable : codeIn K cd_ImplicationGraph_reachable "ImplicationGraph.reachable" = true)
    (k_ImplicationGraph_reachable : keepIn K (.ref f_ImplicationGraph_reachable) = true)
    (a_ImplicationGraph_distances_to : findIn K (.ref C_ImplicationGraph) "distances_to" = some (some (.ref f_ImplicationGraph_distances_to)))
    (i_ImplicationGraph_distances_to : isFn K (.ref f_ImplicationGraph_distances_to) = true)
    (l_ImplicationGraph_distances_to : K.lookup f_ImplicationGraph_distances_to = some ⟨oc_ImplicationGraph_distances_to, od_ImplicationGraph_distances_to, .func (fnOf "distances_to" "ImplicationGraph.distances_to" (defArgs s_ImplicationGraph_distances_to) (defBody s_ImplicationGraph_distances_to) (defScope s_ImplicationGraph_distances_to) .none kV_ImplicationGraph_distances_to dc_ImplicationGraph_distances_to pm_ImplicationGraph_distances_to an_ImplicationGraph_distances_to cd_ImplicationGraph_distances_to ct_ImplicationGraph_distances_to), sl_ImplicationGraph_distances_to⟩)
    (c_ImplicationGraph_distances_to : codeIn K cd_ImplicationGraph_distances_to "ImplicationGraph.distances_to" = true)
    (k_ImplicationGraph_distances_to : keepIn K (.ref f_ImplicationGraph_distances_to) = true)
    (a_ImplicationGraph_shortest_chain : findIn K (.ref C_ImplicationGraph) "shortest_chain" = some (some (.ref f_ImplicationGraph_shortest_chain)))
    (i_ImplicationGraph_shortest_chain : isFn K (.ref f_ImplicationGraph_shortest_chain) = true)
    (l_ImplicationGraph_shortest_chain : K.lookup f_ImplicationGraph_shortest_chain = some ⟨oc_ImplicationGraph_shortest_chain, od_ImplicationGraph_shortest_chain, .func (fnOf "shortest_chain" "ImplicationGraph.shortest_chain" (defArgs s_ImplicationGraph_shortest_chain) (defBody s_ImplicationGraph_shortest_chain) (defScope s_ImplicationGraph_shortest_chain) .none kV_ImplicationGraph_shortest_chain dc_ImplicationGraph_shortest_chain pm_ImplicationGraph_shortest_chain an_ImplicationGraph_shortest_chain cd_ImplicationGraph_shortest_chain ct_ImplicationGraph_shortest_chain), sl_ImplicationGraph_shortest_chain⟩)
    (c_ImplicationGraph_shortest_chain : codeIn K cd_ImplicationGraph_shortest_chain "ImplicationGraph.shortest_chain" = true)
    (k_ImplicationGraph_shortest_chain : keepIn K (.ref f_ImplicationGraph_shortest_chain) = true)
    (a_ImplicationGraph_best_chain : findIn K (.ref C_ImplicationGraph) "best_chain" = some (some (.ref f_ImplicationGraph_best_chain)))
    (i_ImplicationGraph_best_chain : isFn K (.ref f_ImplicationGraph_best_chain) = true)
    (l_ImplicationGraph_best_chain : K.lookup f_ImplicationGraph_best_chain = some ⟨oc_ImplicationGraph_best_chain, od_ImplicationGraph_best_chain, .func (fnOf "best_chain" "ImplicationGraph.best_chain" (defArgs s_ImplicationGraph_best_chain) (defBody s_ImplicationGraph_best_chain) (defScope s_ImplicationGraph_best_chain) .none kV_ImplicationGraph_best_chain dc_ImplicationGraph_best_chain pm_ImplicationGraph_best_chain an_ImplicationGraph_best_chain cd_ImplicationGraph_best_chain ct_ImplicationGraph_best_chain), sl_ImplicationGraph_best_chain⟩)
    (c_ImplicationGraph_best_chain : codeIn K cd_ImplicationGraph_best_chain "ImplicationGraph.best_chain" = true)
    (k_ImplicationGraph_best_chain : keepIn K (.ref f_ImplicationGraph_best_chain) = true)
    (a_graph_of : nsIn K mainGlobals "graph_of" = some (some (.ref f_graph_of)))
    (l_graph_of : K.lookup f_graph_of = some ⟨oc_graph_of, od_graph_of, .func (fnOf "graph_of" "graph_of" (defArgs s_graph_of) (defBody s_graph_of) (defScope s_graph_of) .none kV_graph_of dc_graph_of pm_graph_of an_graph_of cd_graph_of ct_graph_of), sl_graph_of⟩)
    (c_graph_of : codeIn K cd_graph_of "graph_of" = true)
    (k_graph_of : keepIn K (.ref f_graph_of) = true)
    (a_check_literals : nsIn K mainGlobals "check_literals" = some (some (.ref f_check_literals)))
    (l_check_literals : K.lookup f_check_literals = some ⟨oc_check_literals, od_check_literals, .func (fnOf "check_literals" "check_literals" (defArgs s_check_literals) (defBody s_check_literals) (defScope s_check_literals) .none kV_check_literals dc_check_literals pm_check_literals an_check_literals cd_check_literals ct_check_literals), sl_check_literals⟩)
    (c_check_literals : codeIn K cd_check_literals "check_literals" = true)
    (k_check_literals : keepIn K (.ref f_check_literals) = true)
    (a_consequences : nsIn K mainGlobals "consequences" = some (some (.ref f_consequences)))
    (l_consequences : K.lookup f_consequences = some ⟨oc_consequences, od_consequences, .func (fnOf "consequences" "consequences" (defArgs s_consequences) (defBody s_consequences) (defScope s_consequences) .none kV_consequences dc_consequences pm_consequences an_consequences cd_consequences ct_consequences), sl_consequences⟩)
    (c_consequences : codeIn K cd_consequences "consequences" = true)
    (k_consequences : keepIn K (.ref f_consequences) = true)
    (a_find_chain : nsIn K mainGlobals "find_chain" = some (some (.ref f_find_chain)))
    (l_find_chain : K.lookup f_find_chain = some ⟨oc_find_chain, od_find_chain, .func (fnOf "find_chain" "find_chain" (defArgs s_find_chain) (defBody s_find_chain) (defScope s_find_chain) .none kV_find_chain dc_find_chain pm_find_chain an_find_chain cd_find_chain ct_find_chain), sl_find_chain⟩)
    (c_find_chain : codeIn K cd_find_chain "find_chain" = true)
    (k_find_chain : keepIn K (.ref f_find_chain) = true)
    (a_find_contradiction : nsIn K mainGlobals "find_contradiction" = some (some (.ref f_find_contradiction)))
    (l_find_contradiction : K.lookup f_find_contradiction = some ⟨oc_find_contradiction, od_find_contradiction, .func (fnOf "find_contradiction" "find_contradiction" (defArgs s_find_contradiction) (defBody s_find_contradiction) (defScope s_find_contradiction) .none kV_find_contradiction dc_find_contradiction pm_find_contradiction an_find_contradiction cd_find_contradiction ct_find_contradiction), sl_find_contradiction⟩)
    (c_find_contradiction : codeIn K cd_find_contradiction "find_contradiction" = true)
    (k_find_contradiction : keepIn K (.ref f_find_contradiction) = true)
    (a_contradiction : nsIn K mainGlobals "contradiction" = some (some (.ref f_contradiction)))
    (l_contradiction : K.lookup f_contradiction = some ⟨oc_contradiction, od_contradiction, .func (fnOf "contradiction" "contradiction" (defArgs s_contradiction) (defBody s_contradiction) (defScope s_contradiction) .none kV_contradiction dc_contradiction pm_contradiction an_contradiction cd_contradiction ct_contradiction), sl_contradiction⟩)
    (c_contradiction : codeIn K cd_contradiction "contradiction" = true)
    (k_contradiction : keepIn K (.ref f_contradiction) = true)
    (a_check_satisfiable : nsIn K mainGlobals "check_satisfiable" = some (some (.ref f_check_satisfiable)))
    (l_check_satisfiable : K.lookup f_check_satisfiable = some ⟨oc_check_satisfiable, od_check_satisfiable, .func (fnOf "check_satisfiable" "check_satisfiable" (defArgs s_check_satisfiable) (defBody s_check_satisfiable) (defScope s_check_satisfiable) .none kV_check_satisfiable dc_check_satisfiable pm_check_satisfiable an_check_satisfiable cd_check_satisfiable ct_check_satisfiable), sl_check_satisfiable⟩)
    (c_check_satisfiable : codeIn K cd_check_satisfiable "check_satisfiable" = true)
    (k_check_satisfiable : keepIn K (.ref f_check_satisfiable) = true)
    (a_conflict_chain : nsIn K mainGlobals "conflict_chain" = some (some (.ref f_conflict_chain)))
    (l_conflict_chain : K.lookup f_conflict_chain = some ⟨oc_conflict_chain, od_conflict_chain, .func (fnOf "conflict_chain" "conflict_chain" (defArgs s_conflict_chain) (defBody s_conflict_chain) (defScope s_conflict_chain) .none kV_conflict_chain dc_conflict_chain pm_conflict_chain an_conflict_chain cd_conflict_chain ct_conflict_chain), sl_conflict_chain⟩)
    (c_conflict_chain : codeIn K cd_conflict_chain "conflict_chain" = true)
    (k_conflict_chain : keepIn K (.ref f_conflict_chain) = true)
    (a_Completion_init : findIn K (.ref C_Completion) "__init__" = some (some (.ref f_Completion_init)))
    (i_Completion_init : isFn K (.ref f_Completion_init) = true)
    (l_Completion_init : K.lookup f_Completion_init = some ⟨oc_Completion_init, od_Completion_init, .func (fnOf "__init__" "Completion.__init__" (defArgs s_Completion_init) (defBody s_Completion_init) (defScope s_Completion_init) .none kV_Completion_init dc_Completion_init pm_Completion_init an_Completion_init cd_Completion_init ct_Completion_init), sl_Completion_init⟩)
    (c_Completion_init : codeIn K cd_Completion_init "Completion.__init__" = true)
    (k_Completion_init : keepIn K (.ref f_Completion_init) = true)
    (a_Completion_chain_for : findIn K (.ref C_Completion) "chain_for" = some (some (.ref f_Completion_chain_for)))
    (i_Completion_chain_for : isFn K (.ref f_Completion_chain_for) = true)
    (l_Completion_chain_for : K.lookup f_Completion_chain_for = some ⟨oc_Completion_chain_for, od_Completion_chain_for, .func (fnOf "chain_for" "Completion.chain_for" (defArgs s_Completion_chain_for) (defBody s_Completion_chain_for) (defScope s_Completion_chain_for) .none kV_Completion_chain_for dc_Completion_chain_for pm_Completion_chain_for an_Completion_chain_for cd_Completion_chain_for ct_Completion_chain_for), sl_Completion_chain_for⟩)
    (c_Completion_chain_for : codeIn K cd_Completion_chain_for "Completion.chain_for" = true)
    (k_Completion_chain_for : keepIn K (.ref f_Completion_chain_for) = true)
    (a_Completion_verdict : findIn K (.ref C_Completion) "verdict" = some (some (.ref f_Completion_verdict)))
    (i_Completion_verdict : isFn K (.ref f_Completion_verdict) = true)
    (l_Completion_verdict : K.lookup f_Completion_verdict = some ⟨oc_Completion_verdict, od_Completion_verdict, .func (fnOf "verdict" "Completion.verdict" (defArgs s_Completion_verdict) (defBody s_Completion_verdict) (defScope s_Completion_verdict) .none kV_Completion_verdict dc_Completion_verdict pm_Completion_verdict an_Completion_verdict cd_Completion_verdict ct_Completion_verdict), sl_Completion_verdict⟩)
    (c_Completion_verdict : codeIn K cd_Completion_verdict "Completion.verdict" = true)
    (k_Completion_verdict : keepIn K (.ref f_Completion_verdict) = true)
    (a_completion_of : nsIn K mainGlobals "completion_of" = some (some (.ref f_completion_of)))
    (l_completion_of : K.lookup f_completion_of = some ⟨oc_completion_of, od_completion_of, .func (fnOf "completion_of" "completion_of" (defArgs s_completion_of) (defBody s_completion_of) (defScope s_completion_of) .none kV_completion_of dc_completion_of pm_completion_of an_completion_of cd_completion_of ct_completion_of), sl_completion_of⟩)
    (c_completion_of : codeIn K cd_completion_of "completion_of" = true)
    (k_completion_of : keepIn K (.ref f_completion_of) = true)
    (a_verdicts : nsIn K mainGlobals "verdicts" = some (some (.ref f_verdicts)))
    (l_verdicts : K.lookup f_verdicts = some ⟨oc_verdicts, od_verdicts, .func (fnOf "verdicts" "verdicts" (defArgs s_verdicts) (defBody s_verdicts) (defScope s_verdicts) .none kV_verdicts dc_verdicts pm_verdicts an_verdicts cd_verdicts ct_verdicts), sl_verdicts⟩)
    (c_verdicts : codeIn K cd_verdicts "verdicts" = true)
    (k_verdicts : keepIn K (.ref f_verdicts) = true)
    (a_explain_verdict : nsIn K mainGlobals "explain_verdict" = some (some (.ref f_explain_verdict)))
    (l_explain_verdict : K.lookup f_explain_verdict = some ⟨oc_explain_verdict, od_explain_verdict, .func (fnOf "explain_verdict" "explain_verdict" (defArgs s_explain_verdict) (defBody s_explain_verdict) (defScope s_explain_verdict) .none kV_explain_verdict dc_explain_verdict pm_explain_verdict an_explain_verdict cd_explain_verdict ct_explain_verdict), sl_explain_verdict⟩)
    (c_explain_verdict : codeIn K cd_explain_verdict "explain_verdict" = true)
    (k_explain_verdict : keepIn K (.ref f_explain_verdict) = true)
    (a_step_clause : nsIn K mainGlobals "step_clause" = some (some (.ref f_step_clause)))
    (l_step_clause : K.lookup f_step_clause = some ⟨oc_step_clause, od_step_clause, .func (fnOf "step_clause" "step_clause" (defArgs s_step_clause) (defBody s_step_clause) (defScope s_step_clause) .none kV_step_clause dc_step_clause pm_step_clause an_step_clause cd_step_clause ct_step_clause), sl_step_clause⟩)
    (c_step_clause : codeIn K cd_step_clause "step_clause" = true)
    (k_step_clause : keepIn K (.ref f_step_clause) = true)
    (a_is_literal : nsIn K mainGlobals "is_literal" = some (some (.ref f_is_literal)))
    (l_is_literal : K.lookup f_is_literal = some ⟨oc_is_literal, od_is_literal, .func (fnOf "is_literal" "is_literal" (defArgs s_is_literal) (defBody s_is_literal) (defScope s_is_literal) .none kV_is_literal dc_is_literal pm_is_literal an_is_literal cd_is_literal ct_is_literal), sl_is_literal⟩)
    (c_is_literal : codeIn K cd_is_literal "is_literal" = true)
    (k_is_literal : keepIn K (.ref f_is_literal) = true)
    (a_clauses_of_chain : nsIn K mainGlobals "clauses_of_chain" = some (some (.ref f_clauses_of_chain)))
    (l_clauses_of_chain : K.lookup f_clauses_of_chain = some ⟨oc_clauses_of_chain, od_clauses_of_chain, .func (fnOf "clauses_of_chain" "clauses_of_chain" (defArgs s_clauses_of_chain) (defBody s_clauses_of_chain) (defScope s_clauses_of_chain) .none kV_clauses_of_chain dc_clauses_of_chain pm_clauses_of_chain an_clauses_of_chain cd_clauses_of_chain ct_clauses_of_chain), sl_clauses_of_chain⟩)
    (c_clauses_of_chain : codeIn K cd_clauses_of_chain "clauses_of_chain" = true)
    (k_clauses_of_chain : keepIn K (.ref f_clauses_of_chain) = true)
    (a_check_chain : nsIn K mainGlobals "check_chain" = some (some (.ref f_check_chain)))
    (l_check_chain : K.lookup f_check_chain = some ⟨oc_check_chain, od_check_chain, .func (fnOf "check_chain" "check_chain" (defArgs s_check_chain) (defBody s_check_chain) (defScope s_check_chain) .none kV_check_chain dc_check_chain pm_check_chain an_check_chain cd_check_chain ct_check_chain), sl_check_chain⟩)
    (c_check_chain : codeIn K cd_check_chain "check_chain" = true)
    (k_check_chain : keepIn K (.ref f_check_chain) = true)
    (a_judge : nsIn K mainGlobals "judge" = some (some (.ref f_judge)))
    (l_judge : K.lookup f_judge = some ⟨oc_judge, od_judge, .func (fnOf "judge" "judge" (defArgs s_judge) (defBody s_judge) (defScope s_judge) .none kV_judge dc_judge pm_judge an_judge cd_judge ct_judge), sl_judge⟩)
    (c_judge : codeIn K cd_judge "judge" = true)
    (k_judge : keepIn K (.ref f_judge) = true)
    (a_shows_conflict : nsIn K mainGlobals "shows_conflict" = some (some (.ref f_shows_conflict)))
    (l_shows_conflict : K.lookup f_shows_conflict = some ⟨oc_shows_conflict, od_shows_conflict, .func (fnOf "shows_conflict" "shows_conflict" (defArgs s_shows_conflict) (defBody s_shows_conflict) (defScope s_shows_conflict) .none kV_shows_conflict dc_shows_conflict pm_shows_conflict an_shows_conflict cd_shows_conflict ct_shows_conflict), sl_shows_conflict⟩)
    (c_shows_conflict : codeIn K cd_shows_conflict "shows_conflict" = true)
    (k_shows_conflict : keepIn K (.ref f_shows_conflict) = true)
    (a_shows_contradiction : nsIn K mainGlobals "shows_contradiction" = some (some (.ref f_shows_contradiction)))
    (l_shows_contradiction : K.lookup f_shows_contradiction = some ⟨oc_shows_contradiction, od_shows_contradiction, .func (fnOf "shows_contradiction" "shows_contradiction" (defArgs s_shows_contradiction) (defBody s_shows_contradiction) (defScope s_shows_contradiction) .none kV_shows_contradiction dc_shows_contradiction pm_shows_contradiction an_shows_contradiction cd_shows_contradiction ct_shows_contradiction), sl_shows_contradiction⟩)
    (c_shows_contradiction : codeIn K cd_shows_contradiction "shows_contradiction" = true)
    (k_shows_contradiction : keepIn K (.ref f_shows_contradiction) = true)
    (a_law_taken : nsIn K mainGlobals "_law_taken" = some (some (.ref f_law_taken)))
    (l_law_taken : K.lookup f_law_taken = some ⟨oc_law_taken, od_law_taken, .func (fnOf "_law_taken" "_law_taken" (defArgs s_law_taken) (defBody s_law_taken) (defScope s_law_taken) .none kV_law_taken dc_law_taken pm_law_taken an_law_taken cd_law_taken ct_law_taken), sl_law_taken⟩)
    (c_law_taken : codeIn K cd_law_taken "_law_taken" = true)
    (k_law_taken : keepIn K (.ref f_law_taken) = true)
    (a_law_pick : nsIn K mainGlobals "_law_pick" = some (some (.ref f_law_pick)))
    (l_law_pick : K.lookup f_law_pick = some ⟨oc_law_pick, od_law_pick, .func (fnOf "_law_pick" "_law_pick" (defArgs s_law_pick) (defBody s_law_pick) (defScope s_law_pick) .none kV_law_pick dc_law_pick pm_law_pick an_law_pick cd_law_pick ct_law_pick), sl_law_pick⟩)
    (c_law_pick : codeIn K cd_law_pick "_law_pick" = true)
    (k_law_pick : keepIn K (.ref f_law_pick) = true)
    (a_law_kind : nsIn K mainGlobals "_law_kind" = some (some (.ref f_law_kind)))
    (l_law_kind : K.lookup f_law_kind = some ⟨oc_law_kind, od_law_kind, .func (fnOf "_law_kind" "_law_kind" (defArgs s_law_kind) (defBody s_law_kind) (defScope s_law_kind) .none kV_law_kind dc_law_kind pm_law_kind an_law_kind cd_law_kind ct_law_kind), sl_law_kind⟩)
    (c_law_kind : codeIn K cd_law_kind "_law_kind" = true)
    (k_law_kind : keepIn K (.ref f_law_kind) = true)
    (a_law_grammar : nsIn K mainGlobals "_law_grammar" = some (some (.ref f_law_grammar)))
    (l_law_grammar : K.lookup f_law_grammar = some ⟨oc_law_grammar, od_law_grammar, .func (fnOf "_law_grammar" "_law_grammar" (defArgs s_law_grammar) (defBody s_law_grammar) (defScope s_law_grammar) .none kV_law_grammar dc_law_grammar pm_law_grammar an_law_grammar cd_law_grammar ct_law_grammar), sl_law_grammar⟩)
    (c_law_grammar : codeIn K cd_law_grammar "_law_grammar" = true)
    (k_law_grammar : keepIn K (.ref f_law_grammar) = true)
    (a_law_clauses : nsIn K mainGlobals "_law_clauses" = some (some (.ref f_law_clauses)))
    (l_law_clauses : K.lookup f_law_clauses = some ⟨oc_law_clauses, od_law_clauses, .func (fnOf "_law_clauses" "_law_clauses" (defArgs s_law_clauses) (defBody s_law_clauses) (defScope s_law_clauses) .none kV_law_clauses dc_law_clauses pm_law_clauses an_law_clauses cd_law_clauses ct_law_clauses), sl_law_clauses⟩)
    (c_law_clauses : codeIn K cd_law_clauses "_law_clauses" = true)
    (k_law_clauses : keepIn K (.ref f_law_clauses) = true)
    (a_law_literals : nsIn K mainGlobals "_law_literals" = some (some (.ref f_law_literals)))
    (l_law_literals : K.lookup f_law_literals = some ⟨oc_law_literals, od_law_literals, .func (fnOf "_law_literals" "_law_literals" (defArgs s_law_literals) (defBody s_law_literals) (defScope s_law_literals) .none kV_law_literals dc_law_literals pm_law_literals an_law_literals cd_law_literals ct_law_literals), sl_law_literals⟩)
    (c_law_literals : codeIn K cd_law_literals "_law_literals" = true)
    (k_law_literals : keepIn K (.ref f_law_literals) = true)
    (a_law_fits : nsIn K mainGlobals "_law_fits" = some (some (.ref f_law_fits)))
    (l_law_fits : K.lookup f_law_fits = some ⟨oc_law_fits, od_law_fits, .func (fnOf "_law_fits" "_law_fits" (defArgs s_law_fits) (defBody s_law_fits) (defScope s_law_fits) .none kV_law_fits dc_law_fits pm_law_fits an_law_fits cd_law_fits ct_law_fits), sl_law_fits⟩)
    (c_law_fits : codeIn K cd_law_fits "_law_fits" = true)
    (k_law_fits : keepIn K (.ref f_law_fits) = true)
    (a_law_subsets : nsIn K mainGlobals "_law_subsets" = some (some (.ref f_law_subsets)))
    (l_law_subsets : K.lookup f_law_subsets = some ⟨oc_law_subsets, od_law_subsets, .func (fnOf "_law_subsets" "_law_subsets" (defArgs s_law_subsets) (defBody s_law_subsets) (defScope s_law_subsets) .none kV_law_subsets dc_law_subsets pm_law_subsets an_law_subsets (.ref cd_law_subsets) ct_law_subsets), sl_law_subsets⟩)
    (c_law_subsets : codeIn K (.ref cd_law_subsets) "_law_subsets" = true)
    (k_law_subsets : keepIn K (.ref f_law_subsets) = true)
    (a_law_sets : nsIn K mainGlobals "_law_sets" = some (some (.ref f_law_sets)))
    (l_law_sets : K.lookup f_law_sets = some ⟨oc_law_sets, od_law_sets, .func (fnOf "_law_sets" "_law_sets" (defArgs s_law_sets) (defBody s_law_sets) (defScope s_law_sets) .none kV_law_sets dc_law_sets pm_law_sets an_law_sets cd_law_sets ct_law_sets), sl_law_sets⟩)
    (c_law_sets : codeIn K cd_law_sets "_law_sets" = true)
    (k_law_sets : keepIn K (.ref f_law_sets) = true)
    (a_law_names : nsIn K mainGlobals "_law_names" = some (some (.ref f_law_names)))
    (l_law_names : K.lookup f_law_names = some ⟨oc_law_names, od_law_names, .func (fnOf "_law_names" "_law_names" (defArgs s_law_names) (defBody s_law_names) (defScope s_law_names) .none kV_law_names dc_law_names pm_law_names an_law_names cd_law_names ct_law_names), sl_law_names⟩)
    (c_law_names : codeIn K cd_law_names "_law_names" = true)
    (k_law_names : keepIn K (.ref f_law_names) = true)
    (a_law_given : nsIn K mainGlobals "_law_given" = some (some (.ref f_law_given)))
    (l_law_given : K.lookup f_law_given = some ⟨oc_law_given, od_law_given, .func (fnOf "_law_given" "_law_given" (defArgs s_law_given) (defBody s_law_given) (defScope s_law_given) .none kV_law_given dc_law_given pm_law_given an_law_given cd_law_given ct_law_given), sl_law_given⟩)
    (c_law_given : codeIn K cd_law_given "_law_given" = true)
    (k_law_given : keepIn K (.ref f_law_given) = true)
    (a_law_next_literals : nsIn K mainGlobals "_law_next_literals" = some (some (.ref f_law_next_literals)))
    (l_law_next_literals : K.lookup f_law_next_literals = some ⟨oc_law_next_literals, od_law_next_literals, .func (fnOf "_law_next_literals" "_law_next_literals" (defArgs s_law_next_literals) (defBody s_law_next_literals) (defScope s_law_next_literals) .none kV_law_next_literals dc_law_next_literals pm_law_next_literals an_law_next_literals cd_law_next_literals ct_law_next_literals), sl_law_next_literals⟩)
    (c_law_next_literals : codeIn K cd_law_next_literals "_law_next_literals" = true)
    (k_law_next_literals : keepIn K (.ref f_law_next_literals) = true)
    (a_law_chains : nsIn K mainGlobals "_law_chains" = some (some (.ref f_law_chains)))
    (l_law_chains : K.lookup f_law_chains = some ⟨oc_law_chains, od_law_chains, .func (fnOf "_law_chains" "_law_chains" (defArgs s_law_chains) (defBody s_law_chains) (defScope s_law_chains) .none kV_law_chains dc_law_chains pm_law_chains an_law_chains cd_law_chains ct_law_chains), sl_law_chains⟩)
    (c_law_chains : codeIn K cd_law_chains "_law_chains" = true)
    (k_law_chains : keepIn K (.ref f_law_chains) = true)
    (a_law_best : nsIn K mainGlobals "_law_best" = some (some (.ref f_law_best)))
    (l_law_best : K.lookup f_law_best = some ⟨oc_law_best, od_law_best, .func (fnOf "_law_best" "_law_best" (defArgs s_law_best) (defBody s_law_best) (defScope s_law_best) .none kV_law_best dc_law_best pm_law_best an_law_best cd_law_best ct_law_best), sl_law_best⟩)
    (c_law_best : codeIn K cd_law_best "_law_best" = true)
    (k_law_best : keepIn K (.ref f_law_best) = true)
    (a_law_raised : nsIn K mainGlobals "_law_raised" = some (some (.ref f_law_raised)))
    (l_law_raised : K.lookup f_law_raised = some ⟨oc_law_raised, od_law_raised, .func (fnOf "_law_raised" "_law_raised" (defArgs s_law_raised) (defBody s_law_raised) (defScope s_law_raised) .none kV_law_raised dc_law_raised pm_law_raised an_law_raised cd_law_raised ct_law_raised), sl_law_raised⟩)
    (c_law_raised : codeIn K cd_law_raised "_law_raised" = true)
    (k_law_raised : keepIn K (.ref f_law_raised) = true)
    (a_law_contrary : nsIn K mainGlobals "_law_contrary" = some (some (.ref f_law_contrary)))
    (l_law_contrary : K.lookup f_law_contrary = some ⟨oc_law_contrary, od_law_contrary, .func (fnOf "_law_contrary" "_law_contrary" (defArgs s_law_contrary) (defBody s_law_contrary) (defScope s_law_contrary) .none kV_law_contrary dc_law_contrary pm_law_contrary an_law_contrary cd_law_contrary ct_law_contrary), sl_law_contrary⟩)
    (c_law_contrary : codeIn K cd_law_contrary "_law_contrary" = true)
    (k_law_contrary : keepIn K (.ref f_law_contrary) = true)
    (a_law : nsIn K mainGlobals "law" = some (some (.ref f_law)))
    (l_law : K.lookup f_law = some ⟨oc_law, od_law, .func (fnOf "law" "law" (defArgs s_law) (defBody s_law) (defScope s_law) .none kV_law dc_law pm_law an_law (.ref cd_law) ct_law), sl_law⟩)
    (c_law : codeIn K (.ref cd_law) "law" = true)
    (k_law : keepIn K (.ref f_law) = true)
    (pg_ImplicationGraph : plainGet K C_ImplicationGraph Str.empty = true)
    (hd_ImplicationGraph : hasDictIn K C_ImplicationGraph = true)
    (po_ImplicationGraph : plainOver K C_ImplicationGraph = true)
    (sa_ImplicationGraph : findIn K (.ref C_ImplicationGraph) "__setattr__" = some (some (.builtin "object.__setattr__")))
    (mk_ImplicationGraph : makesIn K C_ImplicationGraph = true)
    (kc_ImplicationGraph : keepIn K (.ref C_ImplicationGraph) = true)
    (pg_Completion : plainGet K C_Completion Str.empty = true)
    (hd_Completion : hasDictIn K C_Completion = true)
    (po_Completion : plainOver K C_Completion = true)
    (sa_Completion : findIn K (.ref C_Completion) "__setattr__" = some (some (.builtin "object.__setattr__")))
    (mk_Completion : makesIn K C_Completion = true)
    (kc_Completion : keepIn K (.ref C_Completion) = true)
    (n_ImplicationGraph_successors : findIn K (.ref C_ImplicationGraph) "successors" = some none)
    (n_Completion_graph : findIn K (.ref C_Completion) "graph" = some none)
    (n_Completion_given : findIn K (.ref C_Completion) "given" = some none)
    (g_LETTERS : nsIn K mainGlobals "LETTERS" = some (some u_LETTERS))
    (v_LETTERS : strU "abcdefghijklmnopqrstuvwxyz" u_LETTERS = true)
    (g_HYPHEN : nsIn K mainGlobals "HYPHEN" = some (some u_HYPHEN))
    (v_HYPHEN : strU "-" u_HYPHEN = true)
    (g_MAX_NAME_LENGTH : nsIn K mainGlobals "MAX_NAME_LENGTH" = some (some u_MAX_NAME_LENGTH))
    (v_MAX_NAME_LENGTH : intU 12 u_MAX_NAME_LENGTH = true)
    (g_MAX_OPTIONS : nsIn K mainGlobals "MAX_OPTIONS" = some (some u_MAX_OPTIONS))
    (v_MAX_OPTIONS : intU 12 u_MAX_OPTIONS = true)
    (g_MAX_CLAUSES : nsIn K mainGlobals "MAX_CLAUSES" = some (some u_MAX_CLAUSES))
    (v_MAX_CLAUSES : intU 60 u_MAX_CLAUSES = true)
    (g_MAX_POSITIONALS : nsIn K mainGlobals "MAX_POSITIONALS" = some (some u_MAX_POSITIONALS))
    (v_MAX_POSITIONALS : intU 9 u_MAX_POSITIONALS = true)
    (g_MAX_INTEGER : nsIn K mainGlobals "MAX_INTEGER" = some (some u_MAX_INTEGER))
    (v_MAX_INTEGER : intU 9999 u_MAX_INTEGER = true)
    (g_MAX_CHOICES : nsIn K mainGlobals "MAX_CHOICES" = some (some u_MAX_CHOICES))
    (v_MAX_CHOICES : intU 8 u_MAX_CHOICES = true)
    (g_MAX_WORD_LENGTH : nsIn K mainGlobals "MAX_WORD_LENGTH" = some (some u_MAX_WORD_LENGTH))
    (v_MAX_WORD_LENGTH : intU 12 u_MAX_WORD_LENGTH = true)
    (g_W : nsIn K mainGlobals "CLAUSE_WORDS" = some (some (.ref aW)))
    (v_W : tupU K aW ["needs", "excludes", "either"] = true)
    (x_gF : nsIn K mainGlobals "FlagclauseError" = some (some (.ref CF)))
    (x_rdF : readsIn K CF (.type "type") = true)
    (x_gaF : specialIn K (.ref CF) "__getattribute__" = some (some (.builtin "type.__getattribute__")))
    (x_atF : findCls K (.ref CF) (.type "type") "__init__" = some (.val (.builtin "ValueError.__init__")))
    (x_l : K.lookup C_Conflict = some (excClassObj nmX qX C_Conflict NX bsX bmX true snX subX abX colX ddX k0X k1X k2X k3X k5X "ValueError.__new__"))
    (x_re : PySem.HandSPX.refsVE bmX = true)
    (x_sa : findIn K (.ref C_Conflict) "__setattr__" = some (some (.builtin "object.__setattr__")))
    (x_ex : subIn K (.ref C_Conflict) (.type "BaseException") = some true)
    (x_ty : typeIn K (.ref C_Conflict) = some (.type "type"))
    (x_kp : keepIn K (.ref C_Conflict) = true)
    (x_no : findIn K (.ref C_Conflict) "chain" = some none)
    (x_tI : typeIn K (.ref f_Conflict_init) = some (.type "function"))
    (i_cls : (clsIn K C_Conflict).isSome = true)
    (i_ga : findIn K (.ref C_Conflict) "__getattribute__" = some (some (.builtin "BaseException.__getattribute__")))
    (i_gt : findIn K (.ref C_Conflict) "__getattr__" = some none)
    (i_at : findIn K (.ref C_Conflict) "__class__" = some (some (.builtin "object.__class__")))
    (i_hn : specialIn K (.builtin "object.__class__") "__get__" = some (some (.builtin "getset_descriptor.__get__")))
    (i_tk : takesIn K (.builtin "object.__class__") = some true)
    (i_mro : mroIn K C_Conflict (.type "object") = some true)
    (i_hd : hasDictIn K C_Conflict = true)
    (r_ex : exmOne K (.ref C_Conflict) (.ref CF) = some true)
    (r_kV : kitOne K (.ref C_Conflict) (.type "ValueError") = some true)
    (r_g1 : nsIn K mainGlobals "Unsatisfiable" = some (some (.ref A1)))
    (r_k1 : kitOne K (.ref C_Conflict) (.ref A1) = some false)
    (r_g2 : nsIn K mainGlobals "ParseError" = some (some (.ref A2)))
    (r_k2 : kitOne K (.ref C_Conflict) (.ref A2) = some false)
    (r_g3 : nsIn K mainGlobals "UnmetClause" = some (some (.ref A3)))
    (r_k3 : kitOne K (.ref C_Conflict) (.ref A3) = some false)
    (r_g4 : nsIn K mainGlobals "InvalidOperation" = some (some (.ref A4)))
    (r_k4 : kitOne K (.ref C_Conflict) (.ref A4) = some false)
    (r_g5 : nsIn K mainGlobals "LineError" = some (some (.ref A5)))
    (r_k5 : kitOne K (.ref C_Conflict) (.ref A5) = some false)
    (ne : PL ≠ PS) (tS : h.get? PS = some { cls := .none, data := .fields #[] }) (tL : h.get? PL = some { cls := .none, data := .fields #[] }) (oS : K.lookup PS = none) (oL : K.lookup PL = none) (hS : codeHdIn K cd_law_subsets PS = true) (hL : codeHdIn K cd_law PL = true) :
    LamX.LawAtS l w K CX0 12 63 "_law_script" mg fa h := by
  have e := hfa.symm.trans (mg_of X G a_law)
  cases e
  let T : Txt K mg := {
    z_len := mg_none_of X G z_len,
    z_isinstance := mg_none_of X G z_isinstance,
    z_bool := mg_none_of X G z_bool,
    z_str := mg_none_of X G z_str,
    z_all := mg_none_of X G z_all,
    z_sorted := mg_none_of X G z_sorted,
    z_range := mg_none_of X G z_range,
    z_enumerate := mg_none_of X G z_enumerate,
    z_set := mg_none_of X G z_set,
    z_list := mg_none_of X G z_list,
    z_tuple := mg_none_of X G z_tuple,
    z_int := mg_none_of X G z_int,
    z_min := mg_none_of X G z_min,
    z_ValueError := mg_none_of X G z_ValueError,
    Conflict_init := { a := f_Conflict_init, d := _, F := fun_mk (st := s_Conflict_init) l_Conflict_init c_Conflict_init k_Conflict_init, b := (fun_mk (st := s_Conflict_init) l_Conflict_init c_Conflict_init k_Conflict_init).binds (ps := ["self", "chain"]) fun _ _ _ _ _ _ us hl => match us, hl with | [_, _], _ => rfl },
    is_integer := { a := f_is_integer, d := _, F := fun_mk (st := s_is_integer) l_is_integer c_is_integer k_is_integer, b := (fun_mk (st := s_is_integer) l_is_integer c_is_integer k_is_integer).binds (ps := ["value", "low", "high"]) fun _ _ _ _ _ _ us hl => match us, hl with | [_, _, _], _ => rfl, g := mg_of X G a_is_integer },
    is_name := { a := f_is_name, d := _, F := fun_mk (st := s_is_name) l_is_name c_is_name k_is_name, b := (fun_mk (st := s_is_name) l_is_name c_is_name k_is_name).binds (ps := ["value"]) fun _ _ _ _ _ _ us hl => match us, hl with | [_], _ => rfl, g := mg_of X G a_is_name },
    is_short_name := { a := f_is_short_name, d := _, F := fun_mk (st := s_is_short_name) l_is_short_name c_is_short_name k_is_short_name, b := (fun_mk (st := s_is_short_name) l_is_short_name c_is_short_name k_is_short_name).binds (ps := ["value"]) fun _ _ _ _ _ _ us hl => match us, hl with | [_], _ => rfl, g := mg_of X G a_is_short_name },
    is_choice_word := { a := f_is_choice_word, d := _, F := fun_mk (st := s_is_choice_word) l_is_choice_word c_is_choice_word k_is_choice_word, b := (fun_mk (st := s_is_choice_word) l_is_choice_word c_is_choice_word k_is_choice_word).binds (ps := ["value"]) fun _ _ _ _ _ _ us hl => match us, hl with | [_], _ => rfl, g := mg_of X G a_is_choice_word },
    is_kind := { a := f_is_kind, d := _, F := fun_mk (st := s_is_kind) l_is_kind c_is_kind k_is_kind, b := (fun_mk (st := s_is_kind) l_is_kind c_is_kind k_is_kind).binds (ps := ["value"]) fun _ _ _ _ _ _ us hl => match us, hl with | [_], _ => rfl, g := mg_of X G a_is_kind },
    is_option := { a := f_is_option, d := _, F := fun_mk (st := s_is_option) l_is_option c_is_option k_is_option, b := (fun_mk (st := s_is_option) l_is_option c_is_option k_is_option).binds (ps := ["value"]) fun _ _ _ _ _ _ us hl => match us, hl with | [_], _ => rfl, g := mg_of X G a_is_option },
    check_options := { a := f_check_options, d := _, F := fun_mk (st := s_check_options) l_check_options c_check_options k_check_options, b := (fun_mk (st := s_check_options) l_check_options c_check_options k_check_options).binds (ps := ["options"]) fun _ _ _ _ _ _ us hl => match us, hl with | [_], _ => rfl, g := mg_of X G a_check_options },
    is_clause := { a := f_is_clause, d := _, F := fun_mk (st := s_is_clause) l_is_clause c_is_clause k_is_clause, b := (fun_mk (st := s_is_clause) l_is_clause c_is_clause k_is_clause).binds (ps := ["names", "clause"]) fun _ _ _ _ _ _ us hl => match us, hl with | [_, _], _ => rfl, g := mg_of X G a_is_clause },
    check_grammar := { a := f_check_grammar, d := _, F := fun_mk (st := s_check_grammar) l_check_grammar c_check_grammar k_check_grammar, b := (fun_mk (st := s_check_grammar) l_check_grammar c_check_grammar k_check_grammar).binds (ps := ["grammar"]) fun _ _ _ _ _ _ us hl => match us, hl with | [_], _ => rfl, g := mg_of X G a_check_grammar },
    names_of := { a := f_names_of, d := _, F := fun_mk (st := s_names_of) l_names_of c_names_of k_names_of, b := (fun_mk (st := s_names_of) l_names_of c_names_of k_names_of).binds (ps := ["grammar"]) fun _ _ _ _ _ _ us hl => match us, hl with | [_], _ => rfl, g := mg_of X G a_names_of },
    check_names := { a := f_check_names, d := _, F := fun_mk (st := s_check_names) l_check_names c_check_names k_check_names, b := (fun_mk (st := s_check_names) l_check_names c_check_names k_check_names).binds (ps := ["grammar", "names"]) fun _ _ _ _ _ _ us hl => match us, hl with | [_, _], _ => rfl, g := mg_of X G a_check_names },
    negate := { a := f_negate, d := _, F := fun_mk (st := s_negate) l_negate c_negate k_negate, b := (fun_mk (st := s_negate) l_negate c_negate k_negate).binds (ps := ["literal"]) fun _ _ _ _ _ _ us hl => match us, hl with | [_], _ => rfl, g := mg_of X G a_negate },
    literals_of := { a := f_literals_of, d := _, F := fun_mk (st := s_literals_of) l_literals_of c_literals_of k_literals_of, b := (fun_mk (st := s_literals_of) l_literals_of c_literals_of k_literals_of).binds (ps := ["clause"]) fun _ _ _ _ _ _ us hl => match us, hl with | [_], _ => rfl, g := mg_of X G a_literals_of },
    ImplicationGraph_init := { a := f_ImplicationGraph_init, d := _, F := fun_mk (st := s_ImplicationGraph_init) l_ImplicationGraph_init c_ImplicationGraph_init k_ImplicationGraph_init, b := (fun_mk (st := s_ImplicationGraph_init) l_ImplicationGraph_init c_ImplicationGraph_init k_ImplicationGraph_init).binds (ps := ["self", "names", "clauses"]) fun _ _ _ _ _ _ us hl => match us, hl with | [_, _, _], _ => rfl },
    ImplicationGraph_reachable := { a := f_ImplicationGraph_reachable, d := _, F := fun_mk (st := s_ImplicationGraph_reachable) l_ImplicationGraph_reachable c_ImplicationGraph_reachable k_ImplicationGraph_reachable, b := (fun_mk (st := s_ImplicationGraph_reachable) l_ImplicationGraph_reachable c_ImplicationGraph_reachable k_ImplicationGraph_reachable).binds (ps := ["self", "starts"]) fun _ _ _ _ _ _ us hl => match us, hl with | [_, _], _ => rfl },
    ImplicationGraph_distances_to := { a := f_ImplicationGraph_distances_to, d := _, F := fun_mk (st := s_ImplicationGraph_distances_to) l_ImplicationGraph_distances_to c_ImplicationGraph_distances_to k_ImplicationGraph_distances_to, b := (fun_mk (st := s_ImplicationGraph_distances_to) l_ImplicationGraph_distances_to c_ImplicationGraph_distances_to k_ImplicationGraph_distances_to).binds (ps := ["self", "goal"]) fun _ _ _ _ _ _ us hl => match us, hl with | [_, _], _ => rfl },
    ImplicationGraph_shortest_chain := { a := f_ImplicationGraph_shortest_chain, d := _, F := fun_mk (st := s_ImplicationGraph_shortest_chain) l_ImplicationGraph_shortest_chain c_ImplicationGraph_shortest_chain k_ImplicationGraph_shortest_chain, b := (fun_mk (st := s_ImplicationGraph_shortest_chain) l_ImplicationGraph_shortest_chain c_ImplicationGraph_shortest_chain k_ImplicationGraph_shortest_chain).binds (ps := ["self", "start", "goal"]) fun _ _ _ _ _ _ us hl => match us, hl with | [_, _, _], _ => rfl },
    ImplicationGraph_best_chain := { a := f_ImplicationGraph_best_chain, d := _, F := fun_mk (st := s_ImplicationGraph_best_chain) l_ImplicationGraph_best_chain c_ImplicationGraph_best_chain k_ImplicationGraph_best_chain, b := (fun_mk (st := s_ImplicationGraph_best_chain) l_ImplicationGraph_best_chain c_ImplicationGraph_best_chain k_ImplicationGraph_best_chain).binds (ps := ["self", "starts", "goal"]) fun _ _ _ _ _ _ us hl => match us, hl with | [_, _, _], _ => rfl },
    graph_of := { a := f_graph_of, d := _, F := fun_mk (st := s_graph_of) l_graph_of c_graph_of k_graph_of, b := (fun_mk (st := s_graph_of) l_graph_of c_graph_of k_graph_of).binds (ps := ["grammar"]) fun _ _ _ _ _ _ us hl => match us, hl with | [_], _ => rfl, g := mg_of X G a_graph_of },
    check_literals := { a := f_check_literals, d := _, F := fun_mk (st := s_check_literals) l_check_literals c_check_literals k_check_literals, b := (fun_mk (st := s_check_literals) l_check_literals c_check_literals k_check_literals).binds (ps := ["grammar", "literals"]) fun _ _ _ _ _ _ us hl => match us, hl with | [_, _], _ => rfl, g := mg_of X G a_check_literals },
    consequences := { a := f_consequences, d := _, F := fun_mk (st := s_consequences) l_consequences c_consequences k_consequences, b := (fun_mk (st := s_consequences) l_consequences c_consequences k_consequences).binds (ps := ["grammar", "literals"]) fun _ _ _ _ _ _ us hl => match us, hl with | [_, _], _ => rfl, g := mg_of X G a_consequences },
    find_chain := { a := f_find_chain, d := _, F := fun_mk (st := s_find_chain) l_find_chain c_find_chain k_find_chain, b := (fun_mk (st := s_find_chain) l_find_chain c_find_chain k_find_chain).binds (ps := ["grammar", "start", "goal"]) fun _ _ _ _ _ _ us hl => match us, hl with | [_, _, _], _ => rfl, g := mg_of X G a_find_chain },
    find_contradiction := { a := f_find_contradiction, d := _, F := fun_mk (st := s_find_contradiction) l_find_contradiction c_find_contradiction k_find_contradiction, b := (fun_mk (st := s_find_contradiction) l_find_contradiction c_find_contradiction k_find_contradiction).binds (ps := ["grammar"]) fun _ _ _ _ _ _ us hl => match us, hl with | [_], _ => rfl, g := mg_of X G a_find_contradiction },
    contradiction := { a := f_contradiction, d := _, F := fun_mk (st := s_contradiction) l_contradiction c_contradiction k_contradiction, b := (fun_mk (st := s_contradiction) l_contradiction c_contradiction k_contradiction).binds (ps := ["grammar"]) fun _ _ _ _ _ _ us hl => match us, hl with | [_], _ => rfl, g := mg_of X G a_contradiction },
    check_satisfiable := { a := f_check_satisfiable, d := _, F := fun_mk (st := s_check_satisfiable) l_check_satisfiable c_check_satisfiable k_check_satisfiable, b := (fun_mk (st := s_check_satisfiable) l_check_satisfiable c_check_satisfiable k_check_satisfiable).binds (ps := ["grammar"]) fun _ _ _ _ _ _ us hl => match us, hl with | [_], _ => rfl, g := mg_of X G a_check_satisfiable },
    conflict_chain := { a := f_conflict_chain, d := _, F := fun_mk (st := s_conflict_chain) l_conflict_chain c_conflict_chain k_conflict_chain, b := (fun_mk (st := s_conflict_chain) l_conflict_chain c_conflict_chain k_conflict_chain).binds (ps := ["graph", "given"]) fun _ _ _ _ _ _ us hl => match us, hl with | [_, _], _ => rfl, g := mg_of X G a_conflict_chain },
    Completion_init := { a := f_Completion_init, d := _, F := fun_mk (st := s_Completion_init) l_Completion_init c_Completion_init k_Completion_init, b := (fun_mk (st := s_Completion_init) l_Completion_init c_Completion_init k_Completion_init).binds (ps := ["self", "grammar", "given"]) fun _ _ _ _ _ _ us hl => match us, hl with | [_, _, _], _ => rfl },
    Completion_chain_for := { a := f_Completion_chain_for, d := _, F := fun_mk (st := s_Completion_chain_for) l_Completion_chain_for c_Completion_chain_for k_Completion_chain_for, b := (fun_mk (st := s_Completion_chain_for) l_Completion_chain_for c_Completion_chain_for k_Completion_chain_for).binds (ps := ["self", "literal"]) fun _ _ _ _ _ _ us hl => match us, hl with | [_, _], _ => rfl },
    Completion_verdict := { a := f_Completion_verdict, d := _, F := fun_mk (st := s_Completion_verdict) l_Completion_verdict c_Completion_verdict k_Completion_verdict, b := (fun_mk (st := s_Completion_verdict) l_Completion_verdict c_Completion_verdict k_Completion_verdict).binds (ps := ["self", "name"]) fun _ _ _ _ _ _ us hl => match us, hl with | [_, _], _ => rfl },
    completion_of := { a := f_completion_of, d := _, F := fun_mk (st := s_completion_of) l_completion_of c_completion_of k_completion_of, b := (fun_mk (st := s_completion_of) l_completion_of c_completion_of k_completion_of).binds (ps := ["grammar", "given"]) fun _ _ _ _ _ _ us hl => match us, hl with | [_, _], _ => rfl, g := mg_of X G a_completion_of },
    verdicts := { a := f_verdicts, d := _, F := fun_mk (st := s_verdicts) l_verdicts c_verdicts k_verdicts, b := (fun_mk (st := s_verdicts) l_verdicts c_verdicts k_verdicts).binds (ps := ["grammar", "given"]) fun _ _ _ _ _ _ us hl => match us, hl with | [_, _], _ => rfl, g := mg_of X G a_verdicts },
    explain_verdict := { a := f_explain_verdict, d := _, F := fun_mk (st := s_explain_verdict) l_explain_verdict c_explain_verdict k_explain_verdict, b := (fun_mk (st := s_explain_verdict) l_explain_verdict c_explain_verdict k_explain_verdict).binds (ps := ["grammar", "given", "name"]) fun _ _ _ _ _ _ us hl => match us, hl with | [_, _, _], _ => rfl, g := mg_of X G a_explain_verdict },
    step_clause := { a := f_step_clause, d := _, F := fun_mk (st := s_step_clause) l_step_clause c_step_clause k_step_clause, b := (fun_mk (st := s_step_clause) l_step_clause c_step_clause k_step_clause).binds (ps := ["grammar", "left", "right"]) fun _ _ _ _ _ _ us hl => match us, hl with | [_, _, _], _ => rfl, g := mg_of X G a_step_clause },
    is_literal := { a := f_is_literal, d := _, F := fun_mk (st := s_is_literal) l_is_literal c_is_literal k_is_literal, b := (fun_mk (st := s_is_literal) l_is_literal c_is_literal k_is_literal).binds (ps := ["grammar", "value"]) fun _ _ _ _ _ _ us hl => match us, hl with | [_, _], _ => rfl, g := mg_of X G a_is_literal },
    clauses_of_chain := { a := f_clauses_of_chain, d := _, F := fun_mk (st := s_clauses_of_chain) l_clauses_of_chain c_clauses_of_chain k_clauses_of_chain, b := (fun_mk (st := s_clauses_of_chain) l_clauses_of_chain c_clauses_of_chain k_clauses_of_chain).binds (ps := ["grammar", "chain"]) fun _ _ _ _ _ _ us hl => match us, hl with | [_, _], _ => rfl, g := mg_of X G a_clauses_of_chain },
    check_chain := { a := f_check_chain, d := _, F := fun_mk (st := s_check_chain) l_check_chain c_check_chain k_check_chain, b := (fun_mk (st := s_check_chain) l_check_chain c_check_chain k_check_chain).binds (ps := ["grammar", "chain"]) fun _ _ _ _ _ _ us hl => match us, hl with | [_, _], _ => rfl, g := mg_of X G a_check_chain },
    judge := { a := f_judge, d := _, F := fun_mk (st := s_judge) l_judge c_judge k_judge, b := (fun_mk (st := s_judge) l_judge c_judge k_judge).binds (ps := ["grammar", "given", "name", "chain"]) fun _ _ _ _ _ _ us hl => match us, hl with | [_, _, _, _], _ => rfl, g := mg_of X G a_judge },
    shows_conflict := { a := f_shows_conflict, d := _, F := fun_mk (st := s_shows_conflict) l_shows_conflict c_shows_conflict k_shows_conflict, b := (fun_mk (st := s_shows_conflict) l_shows_conflict c_shows_conflict k_shows_conflict).binds (ps := ["grammar", "given", "chain"]) fun _ _ _ _ _ _ us hl => match us, hl with | [_, _, _], _ => rfl, g := mg_of X G a_shows_conflict },
    shows_contradiction := { a := f_shows_contradiction, d := _, F := fun_mk (st := s_shows_contradiction) l_shows_contradiction c_shows_contradiction k_shows_contradiction, b := (fun_mk (st := s_shows_contradiction) l_shows_contradiction c_shows_contradiction k_shows_contradiction).binds (ps := ["grammar", "chains"]) fun _ _ _ _ _ _ us hl => match us, hl with | [_, _], _ => rfl, g := mg_of X G a_shows_contradiction },
    law_taken := { a := f_law_taken, d := _, F := fun_mk (st := s_law_taken) l_law_taken c_law_taken k_law_taken, b := (fun_mk (st := s_law_taken) l_law_taken c_law_taken k_law_taken).binds (ps := ["_law_row", "_law_many"]) fun _ _ _ _ _ _ us hl => match us, hl with | [_, _], _ => rfl, g := mg_of X G a_law_taken },
    law_pick := { a := f_law_pick, d := _, F := fun_mk (st := s_law_pick) l_law_pick c_law_pick k_law_pick, b := (fun_mk (st := s_law_pick) l_law_pick c_law_pick k_law_pick).binds (ps := ["_law_row", "_law_some"]) fun _ _ _ _ _ _ us hl => match us, hl with | [_, _], _ => rfl, g := mg_of X G a_law_pick },
    law_kind := { a := f_law_kind, d := _, F := fun_mk (st := s_law_kind) l_law_kind c_law_kind k_law_kind, b := (fun_mk (st := s_law_kind) l_law_kind c_law_kind k_law_kind).binds (ps := ["_law_row"]) fun _ _ _ _ _ _ us hl => match us, hl with | [_], _ => rfl, g := mg_of X G a_law_kind },
    law_grammar := { a := f_law_grammar, d := _, F := fun_mk (st := s_law_grammar) l_law_grammar c_law_grammar k_law_grammar, b := (fun_mk (st := s_law_grammar) l_law_grammar c_law_grammar k_law_grammar).binds (ps := ["_law_row", "_law_most"]) fun _ _ _ _ _ _ us hl => match us, hl with | [_, _], _ => rfl, g := mg_of X G a_law_grammar },
    law_clauses := { a := f_law_clauses, d := _, F := fun_mk (st := s_law_clauses) l_law_clauses c_law_clauses k_law_clauses, b := (fun_mk (st := s_law_clauses) l_law_clauses c_law_clauses k_law_clauses).binds (ps := ["_law_row", "_law_options", "_law_most"]) fun _ _ _ _ _ _ us hl => match us, hl with | [_, _, _], _ => rfl, g := mg_of X G a_law_clauses },
    law_literals := { a := f_law_literals, d := _, F := fun_mk (st := s_law_literals) l_law_literals c_law_literals k_law_literals, b := (fun_mk (st := s_law_literals) l_law_literals c_law_literals k_law_literals).binds (ps := ["_law_clause"]) fun _ _ _ _ _ _ us hl => match us, hl with | [_], _ => rfl, g := mg_of X G a_law_literals },
    law_fits := { a := f_law_fits, d := _, F := fun_mk (st := s_law_fits) l_law_fits c_law_fits k_law_fits, b := (fun_mk (st := s_law_fits) l_law_fits c_law_fits k_law_fits).binds (ps := ["_law_clauses_here", "_law_names_here"]) fun _ _ _ _ _ _ us hl => match us, hl with | [_, _], _ => rfl, g := mg_of X G a_law_fits },
    law_subsets := { a := f_law_subsets, d := _, F := fun_mk (st := s_law_subsets) l_law_subsets c_law_subsets k_law_subsets, b := (fun_mk (st := s_law_subsets) l_law_subsets c_law_subsets k_law_subsets).binds (ps := ["_law_grammar_here"]) fun _ _ _ _ _ _ us hl => match us, hl with | [_], _ => rfl, g := mg_of X G a_law_subsets },
    law_sets := { a := f_law_sets, d := _, F := fun_mk (st := s_law_sets) l_law_sets c_law_sets k_law_sets, b := (fun_mk (st := s_law_sets) l_law_sets c_law_sets k_law_sets).binds (ps := ["_law_grammar_here"]) fun _ _ _ _ _ _ us hl => match us, hl with | [_], _ => rfl, g := mg_of X G a_law_sets },
    law_names := { a := f_law_names, d := _, F := fun_mk (st := s_law_names) l_law_names c_law_names k_law_names, b := (fun_mk (st := s_law_names) l_law_names c_law_names k_law_names).binds (ps := ["_law_grammar_here"]) fun _ _ _ _ _ _ us hl => match us, hl with | [_], _ => rfl, g := mg_of X G a_law_names },
    law_given := { a := f_law_given, d := _, F := fun_mk (st := s_law_given) l_law_given c_law_given k_law_given, b := (fun_mk (st := s_law_given) l_law_given c_law_given k_law_given).binds (ps := ["_law_row", "_law_grammar_here"]) fun _ _ _ _ _ _ us hl => match us, hl with | [_, _], _ => rfl, g := mg_of X G a_law_given },
    law_next_literals := { a := f_law_next_literals, d := _, F := fun_mk (st := s_law_next_literals) l_law_next_literals c_law_next_literals k_law_next_literals, b := (fun_mk (st := s_law_next_literals) l_law_next_literals c_law_next_literals k_law_next_literals).binds (ps := ["_law_grammar_here", "_law_literal"]) fun _ _ _ _ _ _ us hl => match us, hl with | [_, _], _ => rfl, g := mg_of X G a_law_next_literals },
    law_chains := { a := f_law_chains, d := _, F := fun_mk (st := s_law_chains) l_law_chains c_law_chains k_law_chains, b := (fun_mk (st := s_law_chains) l_law_chains c_law_chains k_law_chains).binds (ps := ["_law_grammar_here", "_law_start"]) fun _ _ _ _ _ _ us hl => match us, hl with | [_, _], _ => rfl, g := mg_of X G a_law_chains },
    law_best := { a := f_law_best, d := _, F := fun_mk (st := s_law_best) l_law_best c_law_best k_law_best, b := (fun_mk (st := s_law_best) l_law_best c_law_best k_law_best).binds (ps := ["_law_grammar_here", "_law_starts", "_law_goals"]) fun _ _ _ _ _ _ us hl => match us, hl with | [_, _, _], _ => rfl, g := mg_of X G a_law_best },
    law_raised := { a := f_law_raised, d := _, F := fun_mk (st := s_law_raised) l_law_raised c_law_raised k_law_raised, b := (fun_mk (st := s_law_raised) l_law_raised c_law_raised k_law_raised).binds (ps := ["_law_work"]) fun _ _ _ _ _ _ us hl => match us, hl with | [_], _ => rfl, g := mg_of X G a_law_raised },
    law_contrary := { a := f_law_contrary, d := _, F := fun_mk (st := s_law_contrary) l_law_contrary c_law_contrary k_law_contrary, b := (fun_mk (st := s_law_contrary) l_law_contrary c_law_contrary k_law_contrary).binds (ps := ["_law_grammar_here", "_law_names_here"]) fun _ _ _ _ _ _ us hl => match us, hl with | [_, _], _ => rfl, g := mg_of X G a_law_contrary },
    law := { a := fa, d := _, F := fun_mk (st := s_law) l_law c_law k_law, b := (fun_mk (st := s_law) l_law c_law k_law).binds (ps := ["_law_script"]) fun _ _ _ _ _ _ us hl => match us, hl with | [_], _ => rfl, g := mg_of X G a_law },
    C_Conflict := C_Conflict,
    gC_Conflict := mg_of X G gC_Conflict,
    C_ImplicationGraph := C_ImplicationGraph,
    gC_ImplicationGraph := mg_of X G gC_ImplicationGraph,
    cl_ImplicationGraph := ⟨pg_ImplicationGraph, hd_ImplicationGraph, po_ImplicationGraph, sa_ImplicationGraph⟩,
    mk_ImplicationGraph := ⟨mk_ImplicationGraph, a_ImplicationGraph_init, i_ImplicationGraph_init, kc_ImplicationGraph⟩,
    m_ImplicationGraph_reachable := ⟨a_ImplicationGraph_reachable, i_ImplicationGraph_reachable, k_ImplicationGraph_reachable⟩,
    m_ImplicationGraph_distances_to := ⟨a_ImplicationGraph_distances_to, i_ImplicationGraph_distances_to, k_ImplicationGraph_distances_to⟩,
    m_ImplicationGraph_shortest_chain := ⟨a_ImplicationGraph_shortest_chain, i_ImplicationGraph_shortest_chain, k_ImplicationGraph_shortest_chain⟩,
    m_ImplicationGraph_best_chain := ⟨a_ImplicationGraph_best_chain, i_ImplicationGraph_best_chain, k_ImplicationGraph_best_chain⟩,
    C_Completion := C_Completion,
    gC_Completion := mg_of X G gC_Completion,
    cl_Completion := ⟨pg_Completion, hd_Completion, po_Completion, sa_Completion⟩,
    mk_Completion := ⟨mk_Completion, a_Completion_init, i_Completion_init, kc_Completion⟩,
    m_Completion_chain_for := ⟨a_Completion_chain_for, i_Completion_chain_for, k_Completion_chain_for⟩,
    m_Completion_verdict := ⟨a_Completion_verdict, i_Completion_verdict, k_Completion_verdict⟩,
    n_ImplicationGraph_successors := n_ImplicationGraph_successors,
    n_Completion_graph := n_Completion_graph,
    n_Completion_given := n_Completion_given,
    c_LETTERS := ⟨_, mg_of X G g_LETTERS, strU_ok v_LETTERS⟩,
    c_HYPHEN := ⟨_, mg_of X G g_HYPHEN, strU_ok v_HYPHEN⟩,
    c_MAX_NAME_LENGTH := ⟨_, mg_of X G g_MAX_NAME_LENGTH, intU_ok v_MAX_NAME_LENGTH⟩,
    c_MAX_OPTIONS := ⟨_, mg_of X G g_MAX_OPTIONS, intU_ok v_MAX_OPTIONS⟩,
    c_MAX_CLAUSES := ⟨_, mg_of X G g_MAX_CLAUSES, intU_ok v_MAX_CLAUSES⟩,
    c_MAX_POSITIONALS := ⟨_, mg_of X G g_MAX_POSITIONALS, intU_ok v_MAX_POSITIONALS⟩,
    c_MAX_INTEGER := ⟨_, mg_of X G g_MAX_INTEGER, intU_ok v_MAX_INTEGER⟩,
    c_MAX_CHOICES := ⟨_, mg_of X G g_MAX_CHOICES, intU_ok v_MAX_CHOICES⟩,
    c_MAX_WORD_LENGTH := ⟨_, mg_of X G g_MAX_WORD_LENGTH, intU_ok v_MAX_WORD_LENGTH⟩,
    c_CLAUSE_WORDS := ⟨aW, mg_of X G g_W, tupU_ok v_W⟩ }
  have TI : TxtI K C_Conflict := ⟨i_cls, i_ga, i_gt, x_ex, i_at, i_hn, i_tk, i_mro, ⟨i_ga, i_gt, x_ex, i_hd⟩, x_no⟩
  let TX : TxtX K mg T := { CF := CF, gF := mg_of X G x_gF, rdF := x_rdF, gaF := x_gaF, atF := x_atF, oex := ⟨⟨_, _, _, _, _, _, _, _, _, _, _, _, _, _, _, x_l, x_re⟩, x_sa, x_ex, x_ty, x_kp⟩, noC := x_no, iC := a_Conflict_init, tI := x_tI }
  have TR : TxtR K mg T TX := { I := TI, ex := r_ex, kV := r_kV, A1 := A1, g1 := mg_of X G r_g1, k1 := r_k1, A2 := A2, g2 := mg_of X G r_g2, k2 := r_k2, A3 := A3, g3 := mg_of X G r_g3, k3 := r_k3, A4 := A4, g4 := mg_of X G r_g4, k4 := r_k4, A5 := A5, g5 := mg_of X G r_g5, k5 := r_k5 }
  have fS : FunC K "_law_subsets" "_law_subsets" s_law_subsets T.law_subsets.a T.law_subsets.d cd_law_subsets := ⟨_, _, _, _, _, _, _, _, rfl, l_law_subsets, c_law_subsets⟩
  have fL : FunC K "law" "law" s_law T.law.a T.law.d cd_law := ⟨_, _, _, _, _, _, _, _, rfl, l_law, c_law⟩
  refine ⟨T.law.d, [(cd_law_subsets, PS), (cd_law, PL)], spLawT K PS PL, ?_, ?_, ?_, fun s v => .of_eq rfl, fun H a ns hl _ hT hs => ⟨a, ns, rfl, hl, hT _ List.mem_cons_self, hT _ (List.mem_cons_of_mem _ List.mem_cons_self), hs, fun _ => rfl⟩,
    fun base _ _ TBs => ok_law T TX TR ⟨cd_law_subsets, PS, cd_law, PL, fS, fL, TBs _ List.mem_cons_self, TBs _ (List.mem_cons_of_mem _ List.mem_cons_self), ne⟩⟩
  · intro p hp
    simp only [List.mem_cons, List.not_mem_nil, or_false] at hp
    rcases hp with rfl | rfl
    · exact tS
    · exact tL
  · intro p hp
    simp only [List.mem_cons, List.not_mem_nil, or_false] at hp
    rcases hp with rfl | rfl
    · exact oS
    · exact oL
  · intro p hp
    simp only [List.mem_cons, List.not_mem_nil, or_false] at hp
    rcases hp with rfl | rfl
    · exact codeHd_of_K X hS
    · exact codeHd_of_K X hL
end Fc
open PySem PySem.W PyProof.Rows
set_option maxRecDepth 100000 in
set_option maxHeartbeats 0 in
theorem PySem.Challenge.cw_flagclause_k61_whole_shortest_chains_holds : PySem.Challenge.rw_flagclause_k61_whole_shortest_chains.Holds := by
  w_on; o_law; k_head; (case hw => w_witness2)
  k_fill
  refine LamX.walk_ofTs (l := PySem.Challenge.rw_flagclause_k61_whole_shortest_chains) (n := 63) (k := 12) (x := "_law_script") (CX := fun _ => L2.CX0) rfl (by decide) rfl ⟨rfl, by decide, by decide⟩ (fun w h Y => PySem.W.km_in_of Y) ?F (fun _ _ _ _ _ h => h)
  case F =>
    intro w mg fa h Y KX G hmg
    refine' Fc.all_mk (PS := 512) (PL := 563) KX G hmg ?gC_Conflict ?gC_ImplicationGraph ?gC_Completion ?z_len ?z_isinstance ?z_bool ?z_str ?z_all ?z_sorted ?z_range ?z_enumerate ?z_set ?z_list ?z_tuple ?z_int ?z_min ?z_ValueError ?a_Conflict_init ?i_Conflict_init ?l_Conflict_init ?c_Conflict_init ?k_Conflict_init ?a_is_integer ?l_is_integer ?c_is_integer ?k_is_integer ?a_is_name ?l_is_name ?c_is_name ?k_is_name ?a_is_short_name ?l_is_short_name ?c_is_short_name ?k_is_short_name ?a_is_choice_word ?l_is_choice_word ?c_is_choice_word ?k_is_choice_word ?a_is_kind ?l_is_kind ?c_is_kind ?k_is_kind ?a_is_option ?l_is_option ?c_is_option ?k_is_option ?a_check_options ?l_check_options ?c_check_options ?k_check_options ?a_is_clause ?l_is_clause ?c_is_clause ?k_is_clause ?a_check_grammar ?l_check_grammar ?c_check_grammar ?k_check_grammar ?a_names_of ?l_names_of ?c_names_of ?k_names_of ?a_check_names ?l_check_names ?c_check_names ?k_check_names ?a_negate ?l_negate ?c_negate ?k_negate ?a_literals_of ?l_literals_of ?c_literals_of ?k_literals_of ?a_ImplicationGraph_init ?i_ImplicationGraph_init ?l_ImplicationGraph_init ?c_ImplicationGraph_init ?k_ImplicationGraph_init ?a_ImplicationGraph_reachable ?i_ImplicationGraph_reachable ?l_ImplicationGraph_reachable ?c_ImplicationGraph_reachable ?k_ImplicationGraph_reachable ?a_ImplicationGraph_distances_to ?i_ImplicationGraph_distances_to ?l_ImplicationGraph_distances_to ?c_ImplicationGraph_distances_to ?k_ImplicationGraph_distances_to ?a_ImplicationGraph_shortest_chain ?i_ImplicationGraph_shortest_chain ?l_ImplicationGraph_shortest_chain ?c_ImplicationGraph_shortest_chain ?k_ImplicationGraph_shortest_chain ?a_ImplicationGraph_best_chain ?i_ImplicationGraph_best_chain ?l_ImplicationGraph_best_chain ?c_ImplicationGraph_best_chain ?k_ImplicationGraph_best_chain ?a_graph_of ?l_graph_of ?c_graph_of ?k_graph_of ?a_check_literals ?l_check_literals ?c_check_literals ?k_check_literals ?a_consequences ?l_consequences ?c_consequences ?k_consequences ?a_find_chain ?l_find_chain ?c_find_chain ?k_find_chain ?a_find_contradiction ?l_find_contradiction ?c_find_contradiction ?k_find_contradiction ?a_contradiction ?l_contradiction ?c_contradiction ?k_contradiction ?a_check_satisfiable ?l_check_satisfiable ?c_check_satisfiable ?k_check_satisfiable ?a_conflict_chain ?l_conflict_chain ?c_conflict_chain ?k_conflict_chain ?a_Completion_init ?i_Completion_init ?l_Completion_init ?c_Completion_init ?k_Completion_init ?a_Completion_chain_for ?i_Completion_chain_for ?l_Completion_chain_for ?c_Completion_chain_for ?k_Completion_chain_for ?a_Completion_verdict ?i_Completion_verdict ?l_Completion_verdict ?c_Completion_verdict ?k_Completion_verdict ?a_completion_of ?l_completion_of ?c_completion_of ?k_completion_of ?a_verdicts ?l_verdicts ?c_verdicts ?k_verdicts ?a_explain_verdict ?l_explain_verdict ?c_explain_verdict ?k_explain_verdict ?a_step_clause ?l_step_clause ?c_step_clause ?k_step_clause ?a_is_literal ?l_is_literal ?c_is_literal ?k_is_literal ?a_clauses_of_chain ?l_clauses_of_chain ?c_clauses_of_chain ?k_clauses_of_chain ?a_check_chain ?l_check_chain ?c_check_chain ?k_check_chain ?a_judge ?l_judge ?c_judge ?k_judge ?a_shows_conflict ?l_shows_conflict ?c_shows_conflict ?k_shows_conflict ?a_shows_contradiction ?l_shows_contradiction ?c_shows_contradiction ?k_shows_contradiction ?a_law_taken ?l_law_taken ?c_law_taken ?k_law_taken ?a_law_pick ?l_law_pick ?c_law_pick ?k_law_pick ?a_law_kind ?l_law_kind ?c_law_kind ?k_law_kind ?a_law_grammar ?l_law_grammar ?c_law_grammar ?k_law_grammar ?a_law_clauses ?l_law_clauses ?c_law_clauses ?k_law_clauses ?a_law_literals ?l_law_literals ?c_law_literals ?k_law_literals ?a_law_fits ?l_law_fits ?c_law_fits ?k_law_fits ?a_law_subsets ?l_law_subsets ?c_law_subsets ?k_law_subsets ?a_law_sets ?l_law_sets ?c_law_sets ?k_law_sets ?a_law_names ?l_law_names ?c_law_names ?k_law_names ?a_law_given ?l_law_given ?c_law_given ?k_law_given ?a_law_next_literals ?l_law_next_literals ?c_law_next_literals ?k_law_next_literals ?a_law_chains ?l_law_chains ?c_law_chains ?k_law_chains ?a_law_best ?l_law_best ?c_law_best ?k_law_best ?a_law_raised ?l_law_raised ?c_law_raised ?k_law_raised ?a_law_contrary ?l_law_contrary ?c_law_contrary ?k_law_contrary ?a_law ?l_law ?c_law ?k_law ?pg_ImplicationGraph ?hd_ImplicationGraph ?po_ImplicationGraph ?sa_ImplicationGraph ?mk_ImplicationGraph ?kc_ImplicationGraph ?pg_Completion ?hd_Completion ?po_Completion ?sa_Completion ?mk_Completion ?kc_Completion ?n_ImplicationGraph_successors ?n_Completion_graph ?n_Completion_given ?g_LETTERS ?v_LETTERS ?g_HYPHEN ?v_HYPHEN ?g_MAX_NAME_LENGTH ?v_MAX_NAME_LENGTH ?g_MAX_OPTIONS ?v_MAX_OPTIONS ?g_MAX_CLAUSES ?v_MAX_CLAUSES ?g_MAX_POSITIONALS ?v_MAX_POSITIONALS ?g_MAX_INTEGER ?v_MAX_INTEGER ?g_MAX_CHOICES ?v_MAX_CHOICES ?g_MAX_WORD_LENGTH ?v_MAX_WORD_LENGTH ?g_W ?v_W ?x_gF ?x_rdF ?x_gaF ?x_atF ?x_l ?x_re ?x_sa ?x_ex ?x_ty ?x_kp ?x_no ?x_tI ?i_cls ?i_ga ?i_gt ?i_at ?i_hn ?i_tk ?i_mro ?i_hd ?r_ex ?r_kV ?r_g1 ?r_k1 ?r_g2 ?r_k2 ?r_g3 ?r_k3 ?r_g4 ?r_k4 ?r_g5 ?r_k5 (by decide) ?tS ?tL (by kernel_rfl) (by kernel_rfl) ?hS ?hL
    (case gC_Conflict => k_is)
    (case gC_ImplicationGraph => k_is)
    (case gC_Completion => k_is)
    (case z_len => k_is)
    (case z_isinstance => k_is)
    (case z_bool => k_is)
    (case z_str => k_is)
    (case z_all => k_is)
    (case z_sorted => k_is)
    (case z_range => k_is)
    (case z_enumerate => k_is)
    (case z_set => k_is)
    (case z_list => k_is)
    (case z_tuple => k_is)
    (case z_int => k_is)
    (case z_min => k_is)
    (case z_ValueError => k_is)
    (case a_Conflict_init => k_is)
    (case i_Conflict_init => k_is)
    (case l_Conflict_init => k_is)
    (case c_Conflict_init => k_is)
    (case k_Conflict_init => k_is)
    (case a_is_integer => k_is)
    (case l_is_integer => k_is)
    (case c_is_integer => k_is)
    (case k_is_integer => k_is)
    (case a_is_name => k_is)
    (case l_is_name => k_is)
    (case c_is_name => k_is)
    (case k_is_name => k_is)
    (case a_is_short_name => k_is)
    (case l_is_short_name => k_is)
    (case c_is_short_name => k_is)
    (case k_is_short_name => k_is)
    (case a_is_choice_word => k_is)
    (case l_is_choice_word => k_is)
    (case c_is_choice_word => k_is)
    (case k_is_choice_word => k_is)
    (case a_is_kind => k_is)
    (case l_is_kind => k_is)
    (case c_is_kind => k_is)
    (case k_is_kind => k_is)
    (case a_is_option => k_is)
    (case l_is_option => k_is)
    (case c_is_option => k_is)
    (case k_is_option => k_is)
    (case a_check_options => k_is)
    (case l_check_options => k_is)
    (case c_check_options => k_is)
    (case k_check_options => k_is)
    (case a_is_clause => k_is)
    (case l_is_clause => k_is)
    (case c_is_clause => k_is)
    (case k_is_clause => k_is)
    (case a_check_grammar => k_is)
    (case l_check_grammar => k_is)
    (case c_check_grammar => k_is)
    (case k_check_grammar => k_is)
    (case a_names_of => k_is)
    (case l_names_of => k_is)
    (case c_names_of => k_is)
    (case k_names_of => k_is)
    (case a_check_names => k_is)
    (case l_check_names => k_is)
    (case c_check_names => k_is)
    (case k_check_names => k_is)
    (case a_negate => k_is)
    (case l_negate => k_is)
    (case c_negate => k_is)
    (case k_negate => k_is)
    (case a_literals_of => k_is)
    (case l_literals_of => k_is)
    (case c_literals_of => k_is)
    (case k_literals_of => k_is)
    (case a_ImplicationGraph_init => k_is)
    (case i_ImplicationGraph_init => k_is)
    (case l_ImplicationGraph_init => k_is)
    (case c_ImplicationGraph_init => k_is)
    (case k_ImplicationGraph_init => k_is)
    (case a_ImplicationGraph_reachable => k_is)
    (case i_ImplicationGraph_reachable => k_is)
    (case l_ImplicationGraph_reachable => k_is)
    (case c_ImplicationGraph_reachable => k_is)
    (case k_ImplicationGraph_reachable => k_is)
    (case a_ImplicationGraph_distances_to => k_is)
    (case i_ImplicationGraph_distances_to => k_is)
    (case l_ImplicationGraph_distances_to => k_is)
    (case c_ImplicationGraph_distances_to => k_is)
    (case k_ImplicationGraph_distances_to => k_is)
    (case a_ImplicationGraph_shortest_chain => k_is)
    (case i_ImplicationGraph_shortest_chain => k_is)
    (case l_ImplicationGraph_shortest_chain => k_is)
    (case c_ImplicationGraph_shortest_chain => k_is)
    (case k_ImplicationGraph_shortest_chain => k_is)
    (case a_ImplicationGraph_best_chain => k_is)
    (case i_ImplicationGraph_best_chain => k_is)
    (case l_ImplicationGraph_best_chain => k_is)
    (case c_ImplicationGraph_best_chain => k_is)
    (case k_ImplicationGraph_best_chain => k_is)
    (case a_graph_of => k_is)
    (case l_graph_of => k_is)
    (case c_graph_of => k_is)
    (case k_graph_of => k_is)
    (case a_check_literals => k_is)
    (case l_check_literals => k_is)
    (case c_check_literals => k_is)
    (case k_check_literals => k_is)
    (case a_consequences => k_is)
    (case l_consequences => k_is)
    (case c_consequences => k_is)
    (case k_consequences => k_is)
    (case a_find_chain => k_is)
    (case l_find_chain => k_is)
    (case c_find_chain => k_is)
    (case k_find_chain => k_is)
    (case a_find_contradiction => k_is)
    (case l_find_contradiction => k_is)
    (case c_find_contradiction => k_is)
    (case k_find_contradiction => k_is)
    (case a_contradiction => k_is)
    (case l_contradiction => k_is)
    (case c_contradiction => k_is)
    (case k_contradiction => k_is)
    (case a_check_satisfiable => k_is)
    (case l_check_satisfiable => k_is)
    (case c_check_satisfiable => k_is)
    (case k_check_satisfiable => k_is)
    (case a_conflict_chain => k_is)
    (case l_conflict_chain => k_is)
    (case c_conflict_chain => k_is)
    (case k_conflict_chain => k_is)
    (case a_Completion_init => k_is)
    (case i_Completion_init => k_is)
    (case l_Completion_init => k_is)
    (case c_Completion_init => k_is)
    (case k_Completion_init => k_is)
    (case a_Completion_chain_for => k_is)
    (case i_Completion_chain_for => k_is)
    (case l_Completion_chain_for => k_is)
    (case c_Completion_chain_for => k_is)
    (case k_Completion_chain_for => k_is)
    (case a_Completion_verdict => k_is)
    (case i_Completion_verdict => k_is)
    (case l_Completion_verdict => k_is)
    (case c_Completion_verdict => k_is)
    (case k_Completion_verdict => k_is)
    (case a_completion_of => k_is)
    (case l_completion_of => k_is)
    (case c_completion_of => k_is)
    (case k_completion_of => k_is)
    (case a_verdicts => k_is)
    (case l_verdicts => k_is)
    (case c_verdicts => k_is)
    (case k_verdicts => k_is)
    (case a_explain_verdict => k_is)
    (case l_explain_verdict => k_is)
    (case c_explain_verdict => k_is)
    (case k_explain_verdict => k_is)
    (case a_step_clause => k_is)
    (case l_step_clause => k_is)
    (case c_step_clause => k_is)
    (case k_step_clause => k_is)
    (case a_is_literal => k_is)
    (case l_is_literal => k_is)
    (case c_is_literal => k_is)
    (case k_is_literal => k_is)
    (case a_clauses_of_chain => k_is)
    (case l_clauses_of_chain => k_is)
    (case c_clauses_of_chain => k_is)
    (case k_clauses_of_chain => k_is)
    (case a_check_chain => k_is)
    (case l_check_chain => k_is)
    (case c_check_chain => k_is)
    (case k_check_chain => k_is)
    (case a_judge => k_is)
    (case l_judge => k_is)
    (case c_judge => k_is)
    (case k_judge => k_is)
    (case a_shows_conflict => k_is)
    (case l_shows_conflict => k_is)
    (case c_shows_conflict => k_is)
    (case k_shows_conflict => k_is)
    (case a_shows_contradiction => k_is)
    (case l_shows_contradiction => k_is)
    (case c_shows_contradiction => k_is)
    (case k_shows_contradiction => k_is)
    (case a_law_taken => k_is)
    (case l_law_taken => k_is)
    (case c_law_taken => k_is)
    (case k_law_taken => k_is)
    (case a_law_pick => k_is)
    (case l_law_pick => k_is)
    (case c_law_pick => k_is)
    (case k_law_pick => k_is)
    (case a_law_kind => k_is)
    (case l_law_kind => k_is)
    (case c_law_kind => k_is)
    (case k_law_kind => k_is)
    (case a_law_grammar => k_is)
    (case l_law_grammar => k_is)
    (case c_law_grammar => k_is)
    (case k_law_grammar => k_is)
    (case a_law_clauses => k_is)
    (case l_law_clauses => k_is)
    (case c_law_clauses => k_is)
    (case k_law_clauses => k_is)
    (case a_law_literals => k_is)
    (case l_law_literals => k_is)
    (case c_law_literals => k_is)
    (case k_law_literals => k_is)
    (case a_law_fits => k_is)
    (case l_law_fits => k_is)
    (case c_law_fits => k_is)
    (case k_law_fits => k_is)
    (case a_law_subsets => k_is)
    (case l_law_subsets => k_is)
    (case c_law_subsets => k_is)
    (case k_law_subsets => k_is)
    (case a_law_sets => k_is)
    (case l_law_sets => k_is)
    (case c_law_sets => k_is)
    (case k_law_sets => k_is)
    (case a_law_names => k_is)
    (case l_law_names => k_is)
    (case c_law_names => k_is)
    (case k_law_names => k_is)
    (case a_law_given => k_is)
    (case l_law_given => k_is)
    (case c_law_given => k_is)
    (case k_law_given => k_is)
    (case a_law_next_literals => k_is)
    (case l_law_next_literals => k_is)
    (case c_law_next_literals => k_is)
    (case k_law_next_literals => k_is)
    (case a_law_chains => k_is)
    (case l_law_chains => k_is)
    (case c_law_chains => k_is)
    (case k_law_chains => k_is)
    (case a_law_best => k_is)
    (case l_law_best => k_is)
    (case c_law_best => k_is)
    (case k_law_best => k_is)
    (case a_law_raised => k_is)
    (case l_law_raised => k_is)
    (case c_law_raised => k_is)
    (case k_law_raised => k_is)
    (case a_law_contrary => k_is)
    (case l_law_contrary => k_is)
    (case c_law_contrary => k_is)
    (case k_law_contrary => k_is)
    (case a_law => k_is)
    (case l_law => k_is)
    (case c_law => k_is)
    (case k_law => k_is)
    (case pg_ImplicationGraph => k_is)
    (case hd_ImplicationGraph => k_is)
    (case po_ImplicationGraph => k_is)
    (case sa_ImplicationGraph => k_is)
    (case mk_ImplicationGraph => k_is)
    (case kc_ImplicationGraph => k_is)
    (case pg_Completion => k_is)
    (case hd_Completion => k_is)
    (case po_Completion => k_is)
    (case sa_Completion => k_is)
    (case mk_Completion => k_is)
    (case kc_Completion => k_is)
    (case n_ImplicationGraph_successors => k_is)
    (case n_Completion_graph => k_is)
    (case n_Completion_given => k_is)
    (case g_LETTERS => k_is)
    (case v_LETTERS => exact (by kernel_rfl))
    (case g_HYPHEN => k_is)
    (case v_HYPHEN => exact (by kernel_rfl))
    (case g_MAX_NAME_LENGTH => k_is)
    (case v_MAX_NAME_LENGTH => exact (by kernel_rfl))
    (case g_MAX_OPTIONS => k_is)
    (case v_MAX_OPTIONS => exact (by kernel_rfl))
    (case g_MAX_CLAUSES => k_is)
    (case v_MAX_CLAUSES => exact (by kernel_rfl))
    (case g_MAX_POSITIONALS => k_is)
    (case v_MAX_POSITIONALS => exact (by kernel_rfl))
    (case g_MAX_INTEGER => k_is)
    (case v_MAX_INTEGER => exact (by kernel_rfl))
    (case g_MAX_CHOICES => k_is)
    (case v_MAX_CHOICES => exact (by kernel_rfl))
    (case g_MAX_WORD_LENGTH => k_is)
    (case v_MAX_WORD_LENGTH => exact (by kernel_rfl))
    (case g_W => k_is)
    (case v_W => exact (by kernel_rfl))
    (case x_gF => k_is)
    (case x_rdF => k_is)
    (case x_gaF => k_is)
    (case x_atF => k_is)
    (case x_l => k_is)
    (case x_re => exact (by decide +kernel))
    (case x_sa => k_is)
    (case x_ex => k_is)
    (case x_ty => k_is)
    (case x_kp => k_is)
    (case x_no => k_is)
    (case x_tI => k_is)
    (case i_cls => exact (by kernel_rfl))
    (case i_ga => k_is)
    (case i_gt => k_is)
    (case i_at => k_is)
    (case i_hn => k_is)
    (case i_tk => k_is)
    (case i_mro => k_is)
    (case i_hd => k_is)
    (case r_ex => exact (by kernel_rfl))
    (case r_kV => exact (by kernel_rfl))
    (case r_g1 => k_is)
    (case r_k1 => exact (by kernel_rfl))
    (case r_g2 => k_is)
    (case r_k2 => exact (by kernel_rfl))
    (case r_g3 => k_is)
    (case r_k3 => exact (by kernel_rfl))
    (case r_g4 => k_is)
    (case r_k4 => exact (by kernel_rfl))
    (case r_g5 => k_is)
    (case r_k5 => exact (by kernel_rfl))
    (case tS => exact km_tabs_of Y 512 (by simp))
    (case tL => exact km_tabs_of Y 563 (by simp))
    (case hS => exact (by kernel_rfl))
    (case hL => exact (by kernel_rfl))
